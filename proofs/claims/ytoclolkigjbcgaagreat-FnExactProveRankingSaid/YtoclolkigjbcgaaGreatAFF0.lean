/- Elimination: what FindFarkas computes. Plain laws. -/
import Derived.Test.YtoclolkigjbcgaaGreatAN6
import Derived.Test.YtoclolkigjbcgaaGreatAC1
import Derived.Test.YtoclolkigjbcgaaGreatAC13
import Derived.Test.YtoclolkigjbcgaaGreatAE4
namespace Go.Proofs.YtoclolkigjbcgaaGreat
open Tryz
open Tryz(prog)
open List(all_eq_true mem_map getElem_mem mem_append length_append all_append)
set_option maxRecDepth 40000
set_option maxHeartbeats 4000000
open Go Go.RowKit Go.Proofs
set_option linter.all false
structure Ke where
 l:Jc
 mult:List Int
 scale:Int
def Wv(j x k y:Int):Int×Bool:=((Om (Y1 j x).1 k y).1,(Y1 j x).2&&(Om (Y1 j x).1 k y).2)
def Yx(j:Int)(xs:List Int)(k:Int)(ys:List Int):List (Int×Bool):=List.zipWith (λx y=>Wv j x k y) xs ys
def Qn(a:Ke)(j:Int)(b:Ke)(k:Int):Option Ke:=
 match K9 (Jr 0 a.l.Coeffs.length) j a.l with
 |Option.none=>Option.none
 |some l1=>match K9 l1 k b.l with
  |Option.none=>Option.none
  |some l2=>if (Wv j a.scale k b.scale).2&&(Yx j a.mult k b.mult).all (·.2)then some ⟨l2,(Yx j a.mult k b.mult).map (·.1),(Wv j a.scale k b.scale).1⟩else Option.none
def Kf(v:Nat)(d:Ke):Int:=d.l.Coeffs.getD v 0
def Gm(p q:Int):Nat:=Nat.gcd p.toNat q.toNat
def Gf(v:Nat)(a b:Ke):Option Ke:=
 Qn a ((-(Kf v b)).tdiv (Gm (Kf v a) (-(Kf v b)))) b ((Kf v a).tdiv (Gm (Kf v a) (-(Kf v b))))
def O8(v:Nat)(l:List Ke)(a:Ke):List Ke:=
 if Kf v a<=0 then []else l.filterMap λb=>if -(Kf v b)<=0 then Option.none else Gf v a b
def V9(v:Nat)(l:List Ke):List Ke:=l.filter (λd=>Kf v d==0)++l.flatMap (O8 v l)
def Q4:Nat->Nat->List Ke->Option (List Ke)
 |_,0,l=>some l
 |v,n+1,l=>if (V9 v l).length<=60 then Q4 (v+1) n (V9 v l)else Option.none
def Qg(m k:Nat):List Int:=(List.replicate m 0).set k 1
def Hr(rows:List Jc)(last:Jc):List Ke:=
 (List.range rows.length).map (λk=>(⟨rows.getD k Jj,Qg rows.length k,0⟩:Ke))++[⟨last,List.replicate rows.length 0,1⟩]
def Gk:Y7:=⟨0,[]⟩
def Q1(s:Xx)(t:Jc)(L:List Ke):Option Y7:=
 match L.find? λd=>decide (d.l.Const<0)with
 |Option.none=>Option.none
 |some d=>if I6 s t ⟨d.scale,d.mult⟩then some ⟨d.scale,d.mult⟩else Option.none
def Oi(s:Xx)(t:Jc):Option Y7:=
 if Q3 s&&K8 t s.N then
  match K9 (Jr (-1) s.N) (-1) t with
  |Option.none=>Option.none
  |some last=>match Q4 0 s.N.toNat (Hr s.Rows last)with
   |Option.none=>Option.none
   |some L=>Q1 s t L
 else Option.none
def Iy(o:Option Y7):AV := .tup [.agg (Ye (o.getD Gk)),.bool o.isSome]
theorem Jso{x y:Int}(h:(Uz x y).2=true):Kx (Uz x y).1=true:=by
 unfold Uz at h⊢;split at h
 ·rename_i hc;simp only[Bool.and_eq_true]at hc;rw[if_pos (by simp[hc])];exact hc.2
 ·cases h
theorem J4z{x k y v:Int}(h:U3 x k y=some v):Kx v=true:=by
 unfold U3 at h;split at h
 ·rename_i hc;simp only[Bool.and_eq_true]at hc;cases h;exact Jso hc.2
 ·cases h
theorem J0e{a b o:Jc}{k:Int}(h:K9 a k b=some o):K8 o a.Coeffs.length=true:=by
 obtain⟨hl,_⟩:=Mx h;unfold K9 at h;split at h
 ·rename_i hc;simp only[Bool.and_eq_true]at hc;have h1:=hc.1.1.1.1;have h4:=hc.1.2;have h5:=hc.2;have h6:=Wj h1;cases h;unfold K8;simp only[Bool.and_eq_true,decide_eq_true_eq,all_eq_true];refine⟨⟨⟨by simp[Kh];omega,by simp only at hl⊢;omega⟩,?_⟩,?_⟩
  ·obtain⟨v,hv⟩:=Option.isSome_iff_exists.1 h4;rw[hv];exact J4z hv
  ·intro y hy;simp only[mem_map]at hy;obtain⟨z,hz,rfl⟩:=hy;have h7:=all_eq_true.1 h5 z hz;obtain⟨v,rfl⟩:=Option.isSome_iff_exists.1 h7;unfold U4 at hz;rw[List.mem_iff_getElem]at hz;obtain⟨i,hi,he⟩:=hz;simp only[List.getElem_zipWith]at he;exact J4z he
 ·cases h
structure GD (N m:Nat) (d:Ke):Prop where
 ok:K8 d.l N=true
 len:d.mult.length=m
theorem GD.cl {N m:Nat}{d:Ke}(g:GD N m d):d.l.Coeffs.length=N:=by have:=Wj g.ok;omega
theorem GD.coef {N m:Nat}{d:Ke}(g:GD N m d) {v:Nat}(hv:v<N):Kx (Kf v d)=true:=by
 have h:=g.ok;have hl:=g.cl;unfold K8 at h;simp only[Bool.and_eq_true,all_eq_true]at h;have hlt:v<d.l.Coeffs.length:=by omega
 have e:Kf v d=d.l.Coeffs[v]:=by simp[Kf,hlt]
 rw[e];exact h.2 _ (getElem_mem _)
theorem Jh5{N m:Nat}{a b d:Ke}{j k:Int}(ga:GD N m a)(gb:GD N m b)(h:Qn a j b k=some d):GD N m d:=by
 unfold Qn at h;have hc:=ga.cl;have h8:=Wj ga.ok
 have hk0:(Jr 0 (a.l.Coeffs.length:Int)).Coeffs.length=N:=by rw[(F3 (by decide) (by omega)).1];simp[hc]
 split at h
 ·cases h
 rename_i l1 e1;split at h
 ·cases h
 rename_i l2 e2;split at h
 ·cases h;have k1:=J0e e1;rw[hk0]at k1;have k2:=J0e e2;have k3:=Wj k1;refine⟨?_,?_⟩
  ·have:l1.Coeffs.length=N:=by omega
   rw[this]at k2;exact k2
  ·simp[Yx,ga.len,gb.len]
 ·cases h
theorem J5f{N m v:Nat}{l:List Ke}(h:∀d∈l,GD N m d):∀d∈V9 v l,GD N m d:=by
 intro d hd;unfold V9 at hd;rcases mem_append.1 hd with hd|hd
 ·exact h d (List.mem_filter.1 hd).1
 ·obtain⟨a,ha,hd⟩:=List.mem_flatMap.1 hd;unfold O8 at hd;split at hd
  ·cases hd
  ·obtain⟨b,hb,he⟩:=List.mem_filterMap.1 hd;split at he
   ·cases he
   ·exact Jh5 (h a ha) (h b hb) he
theorem Jfk{v:Nat}{l:List Ke}{a:Ke} : (O8 v l a).length<=l.length:=by
 unfold O8;split
 ·simp
 ·exact List.length_filterMap_le _ _
theorem Jbg{v:Nat}{L:List Ke} : ∀{l:List Ke},(l.flatMap (O8 v L)).length<=l.length*L.length
 | []=>by simp
 |a::l=>by have h1:=Jbg (v:=v) (L:=L) (l:=l);have h2:=Jfk (v:=v) (l:=L) (a:=a);simp only[List.flatMap_cons,length_append,List.length_cons,Nat.succ_mul];omega
theorem Po{v:Nat}{l:List Ke} : (V9 v l).length<=l.length+l.length*l.length:=by have h1:=List.length_filter_le (λd=>Kf v d==0) l;have h2:=Jbg (v:=v) (L:=l) (l:=l);unfold V9;rw[length_append];omega
theorem J4n(rows:List Jc)(last:Jc):(Hr rows last).length=rows.length+1:=by simp[Hr]
theorem Jfc{N:Nat}{rows:List Jc}{last:Jc}(h:∀r∈rows,K8 r N=true)(hl:K8 last N=true):∀d∈Hr rows last,GD N rows.length d:=by
 intro d hd;unfold Hr at hd;rcases mem_append.1 hd with hd|hd
 ·obtain⟨k,hk,rfl⟩:=mem_map.1 hd;have hk:=List.mem_range.1 hk;refine⟨?_,by simp[Qg]⟩;have e:rows.getD k Jj=rows[k]:=by simp[hk]
  show K8 (rows.getD k Jj) N=true
  rw[e];exact h _ (getElem_mem hk)
 ·simp only[List.mem_singleton]at hd;subst hd;exact⟨hl,by simp⟩
theorem Nb{s:Xx}(h:Q3 s=true):s.Rows.length<=20/\(0<=s.N/\s.N<=8)/\∀r∈s.Rows,K8 r (s.N.toNat:Nat)=true:=by
 unfold Q3 at h;simp only[Bool.and_eq_true,decide_eq_true_eq,all_eq_true]at h;have h1:=h.1.1;simp[Kh]at h1;refine⟨h.1.2,h1,λr hr=>?_⟩;have:((s.N.toNat:Nat):Int)=s.N:=by omega
 rw[this];exact h.2 r hr
theorem Jtj{s:Xx}{t last:Jc}(hs:Q3 s=true)(h:K9 (Jr (-1) s.N) (-1) t=some last):K8 last (s.N.toNat:Nat)=true:=by
 obtain⟨_,h1,_⟩:=Nb hs;have h2:=J0e h;have:s.N=(s.N.toNat:Nat):=by omega
 rw[this]at h2;rw[(F3 (by decide) (by omega)).1]at h2;simpa using h2
theorem Jax{p q:Int}(hp:0<p):0<Gm p q:=Nat.gcd_pos_of_pos_left _ (by omega)
theorem Jdc{p q:Int}(hp:0<p)(hb:p<=1000000000):Gm p q<=1000000000:=by have:=Nat.gcd_le_left (n:=q.toNat) (m:=p.toNat) (by omega);unfold Gm;omega
theorem Cn{p g:Int}(hp:0<=p)(hb:p<=1000000000)(hg:0<=g):0<=p.tdiv g/\p.tdiv g<=1000000000:=by have h1:=Int.tdiv_nonneg hp hg;have h2:=Int.tdiv_le_self g hp;omega
theorem Jd5{N m:Nat} : ∀{n v:Nat}{l L:List Ke},(∀d∈l,GD N m d)->Q4 v n l=some L->∀d∈L,GD N m d
 |0,v,l,L,h,e=>by simp only[Q4,Option.some.injEq]at e;subst e;exact h
 |n+1,v,l,L,h,e=>by
  simp only[Q4]at e;split at e
  ·exact Jd5 (J5f h) e
  ·cases e
theorem Sy{s:Xx}{t last:Jc}(hs:Q3 s=true)(h:K9 (Jr (-1) s.N) (-1) t=some last):∀d∈Hr s.Rows last,GD s.N.toNat s.Rows.length d:=
 Jfc (Nb hs).2.2 (Jtj hs h)
theorem Jga{s:Xx}{t:Jc}{f:Y7}(h:Oi s t=some f):f.Mult.length<=20:=by
 unfold Oi at h;split at h
 case isFalse=>cases h
 rename_i hc;simp only[Bool.and_eq_true]at hc;split at h
 ·cases h
 rename_i last hl;split at h
 ·cases h
 rename_i L hL;unfold Q1 at h;split at h
 ·cases h
 rename_i d hd;have hm:=List.mem_of_find?_eq_some hd;have hg:=Jd5 (Sy hc.1 hl) hL d hm;have h20:=(Nb hc.1).1;split at h
 ·cases h;have:=hg.len;simp only;omega
 ·cases h
def Hx:List Y7->List X1->Option (List Y7)
 |acc,[]=>some acc
 |acc,o::l=>match Oi o.System o.Target with
  |Option.none=>Option.none
  |some f=>Hx (acc++[f]) l
def Be(os:List X1):Option (List Y7):=Hx [] os
def Eu(o:Option (List Y7)):AV := .tup [.us 2 ((o.getD []).map Ye),.bool o.isSome]
theorem J6s:∀{os:List X1}{acc o:List Y7},Hx acc os=some o->(∀f∈acc,f.Mult.length<=20)->o.length=acc.length+os.length/\∀f∈o,f.Mult.length<=20
 | [],acc,o,h,ha=>by simp only[Hx,Option.some.injEq]at h;subst h;exact⟨rfl,ha⟩
 |x::os,acc,o,h,ha=>by
  simp only[Hx]at h;split at h
  ·cases h
  rename_i f hf
  have h1:=J6s h λg hg=>by
   rcases mem_append.1 hg with hg|hg
   ·exact ha g hg
   ·rw[List.mem_singleton.1 hg];exact Jga hf
  refine⟨?_,h1.2⟩;have:=h1.1;simp at this⊢;omega
theorem J85(os:List X1):((Be os).getD []).length<=os.length/\∀f∈(Be os).getD [],f.Mult.length<=20:=by
 cases h:Be os with
 |none=>simp
 |some o=>
  have:=J6s h (by simp);simp only[Option.getD_some];exact⟨by have:=this.1;simp at this;omega,this.2⟩
def Ve(xs:List Int)(v:AV)(h:J8)(n:Nat):Prop:=(v = .nil 1/\xs=[])\/∃id,id<n/\v = .ref id 0 xs.length/\h id=some ⟨false,1,Ji xs⟩
def Wg(xs:List Int)(v:AV)(h:J8)(n:Nat):Prop:=v = .sl 1 (Ji xs)\/Ve xs v h n
def Ko(h h':J8)(n:Nat):Prop:=∀id z rows,id<n->h id=some ⟨false,z,rows⟩->h' id=some ⟨false,z,rows⟩
theorem Ko.of {h h':J8}{n:Nat}(hh:∀id,id<n->h' id=h id):Ko h h' n:=λid _ _ hid e=>by rw[hh id hid,e]
theorem Ko.trans {h h1 h2:J8}{n n1:Nat}(a:Ko h h1 n) (b:Ko h1 h2 n1) (hn:n<=n1):Ko h h2 n:=λid z rows hid e=>b id z rows (by omega) (a id z rows hid e)
theorem Ve.keep {xs:List Int}{v:AV}{h h':J8}{n n':Nat}(x:Ve xs v h n) (hn:n<=n') (k:Ko h h' n):Ve xs v h' n':=by
 rcases x with x|⟨id,h1,h2,h3⟩
 ·exact .inl x
 ·exact .inr ⟨id,by omega,h2,k id _ _ h1 h3⟩
theorem Wg.keep {xs:List Int}{v:AV}{h h':J8}{n n':Nat}(x:Wg xs v h n) (hn:n<=n') (k:Ko h h' n):Wg xs v h' n':=by
 rcases x with x|x
 ·exact .inl x
 ·exact .inr (x.keep hn k)
theorem Ve.cell {xs:List Int}{v:AV}{h:J8}{n:Nat}(x:Ve xs v h n):Kb v=true:=by rcases x with ⟨rfl,_⟩|⟨id,_,rfl,_⟩ <;>rfl
theorem Wg.cell {xs:List Int}{v:AV}{h:J8}{n:Nat}(x:Wg xs v h n):Kb v=true:=by
 rcases x with rfl|x
 ·rfl
 ·exact x.cell
theorem Ve.bw {xs:List Int}{v:AV}{h:J8}{n:Nat}(x:Ve xs v h n):Go.Proofs.YtoclolkigjbcgaaGreat.bw v h=some (.sl 1 (Ji xs)):=by
 rcases x with ⟨rfl,rfl⟩|⟨id,_,rfl,e⟩
 ·rfl
 ·simp[e]
theorem Wg.bw {xs:List Int}{v:AV}{h:J8}{n:Nat}(x:Wg xs v h n):Go.Proofs.YtoclolkigjbcgaaGreat.bw v h=some (.sl 1 (Ji xs)):=by
 rcases x with rfl|x
 ·rfl
 ·exact x.bw
theorem Wg.bwk {xs:List Int}{v:AV}{h h':J8}{n:Nat}(x:Wg xs v h n) (k:Ko h h' n):Go.Proofs.YtoclolkigjbcgaaGreat.bw v h'=some (.sl 1 (Ji xs)):=(x.keep (Nat.le_refl n) k).bw
def X0(d:Ke)(r:List AV)(h:J8)(n:Nat):Prop:=∃vl vm,r=[.int .i64 d.l.Const,vl,vm,.int .i64 d.scale]/\Wg d.l.Coeffs vl h n/\Ve d.mult vm h n
def Xa(d:Ke)(r:List AV)(h:J8)(n:Nat):Prop:=∃vl vm,r=[.int .i64 d.l.Const,vl,vm]/\Wg d.l.Coeffs vl h n/\Ve (d.mult++[d.scale]) vm h n
theorem X0.keep {d:Ke}{r:List AV}{h h':J8}{n n':Nat}(x:X0 d r h n) (hn:n<=n') (k:Ko h h' n):X0 d r h' n':=by obtain⟨vl,vm,h1,h2,h3⟩:=x;exact⟨vl,vm,h1,h2.keep hn k,h3.keep hn k⟩
theorem Xa.keep {d:Ke}{r:List AV}{h h':J8}{n n':Nat}(x:Xa d r h n) (hn:n<=n') (k:Ko h h' n):Xa d r h' n':=by obtain⟨vl,vm,h1,h2,h3⟩:=x;exact⟨vl,vm,h1,h2.keep hn k,h3.keep hn k⟩
def K7(R:Ke->List AV->J8->Nat->Prop)(z b:Nat)(ds:List Ke)(v:AV)(h:J8)(n:Nat):Prop:=
 (v = .nil z/\ds=[])\/∃id rows,b<=id/\id<n/\v = .ref id 0 ds.length/\h id=some ⟨true,z,rows⟩/\rows.length=ds.length/\∀(i:Nat) d,ds[i]? = some d->∃r,rows[i]? = some r/\R d r h n
section
variable {R:Ke->List AV->J8->Nat->Prop}{z b:Nat}{ds:List Ke}{v:AV}{h h':J8}{n n':Nat}
theorem K7.keep (hR:∀d r h h' n n',R d r h n->n<=n'->Ko h h' n->R d r h' n') (x:K7 R z b ds v h n) (hn:n<=n') (k:Ko h h' n) (hb:∀id rows,b<=id->id<n->v = .ref id 0 ds.length->h id=some ⟨true,z,rows⟩->h' id=some ⟨true,z,rows⟩):K7 R z b ds v h' n':=by
 rcases x with x|⟨id,rows,h0,h1,h2,h3,h4,h5⟩
 ·exact .inl x
 ·refine .inr ⟨id,rows,h0,by omega,h2,hb id rows h0 h1 h2 h3,h4,λi d hd=>?_⟩;obtain⟨r,g1,g2⟩:=h5 i d hd;exact⟨r,g1,hR _ _ _ _ _ _ g2 hn k⟩
theorem K7.low {b':Nat}(x:K7 R z b ds v h n) (hb:b'<=b):K7 R z b' ds v h n:=by
 rcases x with x|⟨id,rows,h0,h1⟩
 ·exact .inl x
 ·exact .inr ⟨id,rows,by omega,h1⟩
theorem K7.snoc (hR:∀d r h h' n n',R d r h n->n<=n'->Ko h h' n->R d r h' n') {d:Ke}{r:List AV}{id:Nat}{rows:List (List AV)}(hl:rows.length=ds.length) (hx:∀(i:Nat) d,ds[i]? = some d->∃r,rows[i]? = some r/\R d r h n) (hr:R d r h n) (hn:n<=n') (k:Ko h h' n)
 (hb:b<=id) (hid:id<n') (e:h' id=some ⟨true,z,rows++[r]⟩):K7 R z b (ds++[d]) (.ref id 0 (ds.length+1)) h' n':=by
 refine .inr ⟨id,rows++[r],hb,hid,by simp,e,by simp[hl],λi d' hd=>?_⟩;rcases Nat.lt_trichotomy i ds.length with hi|hi|hi
 ·rw[List.getElem?_append_left hi]at hd;obtain⟨r',g1,g2⟩:=hx i d' hd;exact⟨r',by rw[List.getElem?_append_left (by omega)];exact g1,hR _ _ _ _ _ _ g2 hn k⟩
 ·subst hi;simp at hd;subst hd;exact⟨r,by rw[<-hl];simp,hR _ _ _ _ _ _ hr hn k⟩
 ·rw[List.getElem?_eq_none (by simp;omega)]at hd;cases hd
end
theorem Fp{R:Ke->List AV->J8->Nat->Prop}{z b bytes:Nat}{ds:List Ke}{v y:AV}{h:J8}{n:Nat}{d:Ke}{r:List AV}{K:AV->J8->Nat->Prop}(hR:∀d r h h' n n',R d r h n->n<=n'->Ko h h' n->R d r h' n')(x:K7 R z b ds v h n)(hy:Is h y=some (z,[r]))(hr:R d r h n)(hbn:b<=n)(hl:(ds.length+1)*bytes<=Jd)
 (hK:∀h',Ko h h' n->(∀id,id<n->(∀k,v ≠ .ref id 0 k)->h' id=h id)->K7 R z b (ds++[d]) (.ref n 0 (ds.length+1)) h' (n+1)->K (.ref n 0 (ds.length+1)) h' (n+1)):Ry bytes z v y h n K:=by
 rcases x with ⟨rfl,rfl⟩|⟨id,rows,h0,h1,rfl,h3,h4,h5⟩
 ·simp only[Jfm,hy,Js];have hk:Ko h (upd h n (some ⟨true,z,[r]⟩)) n:=Ko.of λid hid=>by rw[Yk];omega
  refine⟨trivial,by simpa using hl,hK _ hk (λid hid _=>by rw[Yk];omega) ?_⟩;exact K7.snoc (ds:=[]) (rows:=[]) hR rfl (by simp) hr (Nat.le_succ n) hk hbn (Nat.lt_succ_self n) (by simp)
 ·have ht:List.take ds.length rows=rows:=List.take_of_length_le (by omega);simp only[Jf1,hy,h3,Js,ht]
  have hf:∀i,i<n->i≠id->upd (upd h id Option.none) n (some ⟨true,z,rows++[r]⟩) i=h i:=λi hi hne'=>by rw[Yk _ _ _ _ (by omega),Yk _ _ _ _ hne']
  have hk:Ko h (upd (upd h id Option.none) n (some ⟨true,z,rows++[r]⟩)) n:=λi z' rows' hi e=>by
   have hne':i≠id:=λe2=>by subst e2;rw[h3]at e;simp at e
   rw[hf i hi hne'];exact e
  refine⟨trivial,trivial,trivial,by omega,trivial,by simpa using hl,hK _ hk (λi hi hv=>hf i hi λe=>hv ds.length (by rw[e])) ?_⟩;exact K7.snoc hR h4 h5 hr (Nat.le_succ n) hk hbn (Nat.lt_succ_self n) (by simp)
section
variable {R:Ke->List AV->J8->Nat->Prop}{z b:Nat}{ds:List Ke}{v:AV}{h:J8}{n:Nat}{K:AV->J8->Nat->Prop}
theorem Gq(x:K7 R z b ds v h n)(hl:ds.length<=Jd)(hk:K (.int .i64 ds.length) h n):Fz false v h n K:=by
 rcases x with ⟨rfl,rfl⟩|⟨id,rows,_,_,rfl,e,_⟩
 ·simpa using hk
 ·simp only[Jho,e];exact⟨rfl,λ_=>hk⟩
theorem Dx{i:Nat}(x:K7 R z b ds v h n)(hi:i<ds.length)(hk:∀id rows r,id<n->h id=some ⟨true,z,rows⟩->(hl:i<rows.length)->rows[i]'hl=r->R ds[i] r h n->K (.ptr id i 0) h n):Nt z v (some (i:Int)) h n K:=by
 rcases x with ⟨_,rfl⟩|⟨id,rows,_,hid,rfl,e,hl,hx⟩
 ·simp at hi
 ·obtain⟨r,g1,g2⟩:=hx i ds[i] (List.getElem?_eq_getElem hi);simp[hi,e];refine hk id rows r hid e (by omega) ?_ g2;rw[List.getElem?_eq_getElem (by omega)]at g1;exact Option.some.inj g1
end
theorem Tm{P:Program}{f:FuncId}{xs:List AV}{h:J8}{n:Nat}{K:AV->J8->Nat->Prop}(hA:X9 P f xs h n λr h' n'=>(∀id,id<n->h' id=h id)/\K r h' n'):X9 P f xs h n (hK h K):=by
 refine⟨hA.1,λbase w0 w L F vs H hv=>?_⟩;refine(hA.2 base w0 w L F vs H hv).mono ?_;rintro e w' ⟨v,r,L',n',F',h',rfl,H',Y6,hr,hh,hk⟩;refine⟨v,r,L',n',F',h',rfl,H',Y6,hr,λid B hB=>?_,hk⟩
 have hlt:id<n:=by
  cases hl:L id with
  |none=>rw[H.mod id hl]at hB;cases hB
  |some l=>exact H.lt id l hl
 rw[hh id hlt];exact hB
section
variable {xs:List Int}{v:AV}{h:J8}{n:Nat}{K:AV->J8->Nat->Prop}
theorem Ja7(x:Wg xs v h n)(hk:K (.int .i64 xs.length) h n):Cy false v h n K:=by
 rcases x with rfl|⟨rfl,rfl⟩|⟨id,_,rfl,e⟩
 ·simpa using hk
 ·simpa using hk
 ·simpa[e]using hk
theorem Jj3(x:Wg xs v h n)(hk:xs.length<=Jd->K (.int .i64 xs.length) h n)(hl:xs.length<=Jd):Fz false v h n K:=by
 rcases x with rfl|⟨rfl,rfl⟩|⟨id,_,rfl,e⟩
 ·simpa using hk
 ·simpa using hk (by simp)
 ·simpa[e]using hk
theorem F4{i:Nat}(x:Wg xs v h n)(hi:i<xs.length)(hk:∀a,(∀K':AV->J8->Nat->Prop,K' (.int .i64 xs[i]) h n->Rc false 1 a h n K')->K a h n):Nt 1 v (some (i:Int)) h n K:=by
 rcases x with rfl|⟨rfl,rfl⟩|⟨id,_,rfl,e⟩
 ·simp[hi];exact hk _ λK' h'=>by simpa[hi]using h'
 ·simp at hi
 ·simp[hi,e];exact hk _ λK' h'=>by simpa[e,hi]using h'
end
def K55:Jl:= ⟨23,[.t 4],(Zq [Zi 4 0] (.seq (Zq [Zv 5 0,Zc 6 232 [.t 5],ZN 7 6,Zv 8 7,Zg 9 8 false (.mv (.t 1)),Zg 10 8 false (.call (.k (.fn (.func 232) [] [])) [.t 9]),Zg 11 8 false (.un .not (.t 10)),ZP 12 8 11] (.cond (.t 12) (Zq [Zi 4 0] .ret) .skip)) (.seq (.blk 0 (.loop (.seq (Zq [Zv 13 1,Zk 14 .neq 13 0] (Zw 14 0)) (.blk 1 (.draw (.op (Zv 15 1) (.op (Zv 16 0) (.op (Zv 17 1) (.op (Zb 18 .rem 16 17) (.hop (Zv 0 15) [] (.hop (Zv 1 18) [] .fin))))))))))) (Zq [Zv 19 0,Zv 20 0,Zo 21 (.un .neg (.t 20)),Zo 22 (.mnx true (.t 19) (.t 21)),Zv 4 22] .ret))))⟩
theorem Jtf:Jh prog f312=some K55:=by kernel_rfl
def K5m:Jl:= ⟨8,[.t 2],(Zq [Zi 2 0] (.seq (Zq [Zv 3 0,Zk 4 .lss 3 0] (.cond (.t 4) (Zq [Zv 5 0,Zo 6 (.bin .sub (.k (.int .i64 0)) (.t 5)),Zv 2 6] .ret) .skip)) (Zq [Zv 7 0,Zv 2 7] .ret)))⟩
theorem Joh:Jh prog f338=some K5m:=by kernel_rfl
def K5x:Jl:= ⟨28,[.t 4],(Zq [Zi 4 0] (.seq (Zq [Zv 8 0,Zc 9 181 [.t 8],ZN 10 9,Zv 11 10,Zg 12 11 false (.mv (.t 1)),Zg 13 11 false (.call (.k (.fn (.func 181) [] [])) [.t 12]),Zg 14 11 false (.un .not (.t 13)),ZP 15 11 14] (.cond (.t 15) (Zq [Zi 4 0] .ret) .skip)) (Zq [Zv 16 0,Zc 17 338 [.t 16],Zv 5 17] (Zq [Zv 18 1,Zc 19 338 [.t 18],Zv 6 19] (.seq (.blk 0 (.loop (.seq (Zq [Zv 20 6,Zk 21 .gtr 20 0] (Zw 21 0)) (.blk 1 (Zq [Zv 22 5,Zv 23 6,Zb 24 .rem 22 23,Zv 7 24] (Zq [Zv 25 6,Zv 5 25] (.reg [Zv 26 7,Zv 6 26]))))))) (Zq [Zv 27 5,Zv 4 27] .ret))))))⟩
theorem Jo8:Jh prog f329=some K5x:=by kernel_rfl
theorem Kc1{a b:Nat}(ha:a<=1000000000)(_hb:b<=1000000000):(a:Int).tmod (b:Int)=((a % b:Nat):Int):=by rw[Int.ofNat_tmod]
theorem Jxh(a b:Nat)(ha:a<=1000000000)(hb:b<=1000000000):Holds prog 312 [i64 a,i64 b] (λr=>r=i64 (Nat.gcd a b:Nat)):=by
 have oa:Kx (a:Int)=true:=by rw[Oh];omega
 have ob:Kx (b:Int)=true:=by rw[Oh];omega
 refine Jp func312 Jtf rfl (by simp[K55]) ?_;simp[K55];refine Je (Gr (a:Int)) (by simp) ?_;rintro r rfl;simp[oa];refine Je (Gr (b:Int)) (by simp) ?_;rintro r rfl;simp[ob];generalize hG:Nat.gcd a b=G;refine O0 (λk s h n=>∃x y:Nat,k=y/\s 0=i64 x/\s 1=i64 y/\x<=1000000000/\y<=1000000000/\Nat.gcd x y=G) b ⟨a,b,rfl,by simp,by simp,ha,hb,hG⟩ ?_;rintro k s h n ⟨x,y,hky,s0,s1,hx,hy,hg⟩;by_cases h0:y=0
 ·subst h0;simp at hg;subst hg;have hw:IntKind.i64.wrap (0 - (x:Int))=0 - (x:Int):=Km (by omega);have hm:¬(0 - (x:Int))>x:=by omega
  simp[s0,s1];simp at hw hm;simp[hw];omega
 ·have hy0:¬(y:Int)=0:=by omega
  simp[s0,s1,Kc1 hx hy,h0];exact⟨x % y,by rw[hky];exact Nat.mod_lt _ (by omega),y,rfl,by simp,hy,by have:=Nat.mod_lt x (show 0<y by omega);omega,by rw[<-hg,Nat.gcd_comm x y,Nat.gcd_rec y x,Nat.gcd_comm]⟩
theorem J6r(a:Nat)(ha:a<=1000000000):Holds prog 338 [i64 a] (λr=>r=i64 a):=by refine Jp func338 Joh rfl (by simp[K5m]) ?_;simp[K5m];omega
theorem Jnf(a b:Nat)(ha:a<=1000000000)(hb:b<=1000000000):Holds prog 329 [i64 a,i64 b] (λr=>r=i64 (Nat.gcd a b:Nat)):=by
 have oa:Kx (a:Int)=true:=by rw[Oh];omega
 have ob:Kx (b:Int)=true:=by rw[Oh];omega
 refine Jp func329 Jo8 rfl (by simp[K5x]) ?_;simp[K5x];refine Je (Hh (a:Int)) (by simp) ?_;rintro r rfl;simp[oa];refine Je (Hh (b:Int)) (by simp) ?_;rintro r rfl;simp[ob];refine Je (J6r a ha) (by simp) ?_;rintro r rfl;simp;refine Je (J6r b hb) (by simp) ?_;rintro r rfl;simp;generalize hG:Nat.gcd a b=G;refine O0 (λk s h n=>∃x y:Nat,k=y/\s 5=i64 x/\s 6=i64 y/\x<=1000000000/\y<=1000000000/\Nat.gcd x y=G) b ⟨a,b,rfl,by simp,by simp,ha,hb,hG⟩ ?_;rintro k s h n ⟨x,y,hky,s5,s6,hx,hy,hg⟩;by_cases h0:y=0
 ·subst h0;simp at hg;subst hg;simp[s5,s6]
 ·have hy0:¬(y:Int)=0:=by omega
  have hy1:(0:Int)<y:=by omega
  simp[s5,s6,Kc1 hx hy,h0];have hpos:0<y:=by omega
  simp[hpos];exact⟨x % y,by rw[hky];exact Nat.mod_lt _ (by omega),y,rfl,by simp,hy,by have:=Nat.mod_lt x (show 0<y by omega);omega,by rw[<-hg,Nat.gcd_comm x y,Nat.gcd_rec y x,Nat.gcd_comm]⟩
def cm0:AC:=(.reg [Zi 6 0,Zt 7 false])
def cm1:AC:=(.reg [Zl 13 false 1 2,Zv 14 0,Zc 15 308 [.t 13,.t 14],Zv 12 15,Ze 16 12 0,Ze 17 12 1,Zv 8 16,Zv 9 17])
def cm2:AC:=(.reg [Zv 19 8,Zl 20 false 1 3,Zv 21 1,Zc 22 274 [.t 19,.t 20,.t 21],Zv 18 22,Ze 23 18 0,Ze 24 18 1,Zv 10 23,Zv 11 24])
def cm3:AC:=(.reg [Zv 25 10,Zv 26 9,Zv 27 26,Zg 28 27 true (.mv (.t 11)),ZQ 29 27 28,Zv 6 25,Zv 7 29])
def K5v:Jl:=⟨30,[.t 6,.t 7],(.seq cm0 (.seq cm1 (.seq cm2 (.seq cm3 .ret))))⟩
theorem Jo9:Gd true prog f331=some K5v:=by kernel_rfl
def cb0:AC:=(.reg [ZB 4 0,ZB 5 1,ZB 6 2,ZB 7 3,Zo 8 (.box [(.int .i64 0),(.nil 1),(.nil 1),(.int .i64 0)]),Zt 9 false])
def cb1:AC:=(.draw (.op (Zf 21 0 4) (.op (Zf 22 1 21) (.op (Zl 23 false 1 22) (.op (Zn 24 23) (.op (Zl 26 false 1 5) (.op (Zf 27 0 4) (.op (Zl 28 true 2 27) (.both (.op (Zc 25 178 [(.k (.int .i64 0)),.t 24]) (.both (.op (Zc 29 193 [.t 25,.t 26,.t 28]) (.op (Zv 20 29) (.op (Ze 30 20 0) (.op (Ze 31 20 1) (.op (ZR 10) (.hop (Zs 2 10 30) [] (.op (Zv 11 31) .fin))))))) (.op (ZR 10) (.op (Zc 29 193 [.t 25,.t 26,.t 28]) (.op (Zv 20 29) (.op (Ze 30 20 0) (.op (Ze 31 20 1) (.hop (Zs 2 10 30) [] (.op (Zv 11 31) .fin))))))))) (.op (ZR 10) (.op (Zc 25 178 [(.k (.int .i64 0)),.t 24]) (.op (Zc 29 193 [.t 25,.t 26,.t 28]) (.op (Zv 20 29) (.op (Ze 30 20 0) (.op (Ze 31 20 1) (.hop (Zs 2 10 30) [] (.op (Zv 11 31) .fin)))))))))))))))))
def cb2:AC:=(.reg [Zl 33 true 2 10,Zl 34 false 1 7,Zf 35 0 6,Zl 36 true 2 35,Zc 37 193 [.t 33,.t 34,.t 36],Zv 32 37,Ze 38 32 0,Ze 39 32 1,Zs 2 10 38,Zv 12 39])
def R6:AC:=(Zq [Zv 40 11,ZN 41 40,Zv 42 41,Zg 43 42 false (.mv (.t 12)),Zg 44 42 false (.un .not (.t 43)),ZP 45 42 44] (.cond (.t 45) (Zq [Zo 46 (.build [(.int .i64 0),(.nil 1),(.nil 1),(.int .i64 0)] []),Zs 4 8 46,Zt 9 false] .ret) .skip))
def cb4:AC:=(.reg [Zo 47 (.mkf (.func 331) [] [.t 5,.t 7]),Zv 13 47])
def cb5:AC:=(.reg [Zl 48 true 2 10,Zo 49 (.build [(.int .i64 0),(.nil 1),(.nil 1),(.int .i64 0)] [(0,(2,(.t 48)))]),Zo 14 (.box [(.int .i64 0),(.nil 1),(.nil 1),(.int .i64 0)]),Zs 4 14 49])
def cb6:AC:=(.reg [Zv 51 13,Zf 52 3 4,Zl 53 false 1 52,Zf 54 3 6,Zl 55 false 1 54,Zo 56 (.call (.t 51) [.t 53,.t 55]),Zv 50 56,Ze 57 50 0,Ze 58 50 1,Zv 15 57,Zv 16 58])
def cb7:AC:=(.reg [Zv 59 15,Zf 60 3 14,Zs 1 60 59])
def Kci:AC:=(.draw (.op (Zv 68 13) (.op (Zf 69 2 4) (.op (Zl 70 false 1 69) (.op (Zv 71 17) (.op (Zx 72 1 70 71) (.op (Zl 73 false 1 72) (.op (Zf 74 2 6) (.op (Zl 75 false 1 74) (.op (Zv 76 17) (.op (Zx 77 1 75 76) (.op (Zl 78 false 1 77) (.op (Zo 79 (.call (.t 68) [.t 73,.t 78])) (.op (Zv 67 79) (.op (Ze 80 67 0) (.op (Ze 81 67 1) (.op (Zv 18 80) (.op (Zv 19 81) .fin))))))))))))))))))
def Kch:AC:=(.reg [Zf 82 2 14,Zl 83 false 1 82,Zv 84 18,ZS 85 1 84,ZA 86 8 1 83 85,Zf 87 2 14,Zs 1 87 86])
def K4f:AC:=(.reg [Zv 88 16,Zv 89 88,Zg 90 89 true (.mv (.t 19)),ZQ 91 89 90,Zv 16 91])
def cb8:AC:=(Zq [Zf 61 2 4,Zl 62 false 1 61,Zn 63 62,Zi 64 0] (.blk 0 (.loop (Zq [Zb 65 .lss 64 63] (.seq (Zw 65 0) (.seq (.blk 1 (Zq [Zv 66 64,Zv 17 66] (.seq Kci (.seq  Kch  K4f)))) (.reg [Zk 92 .add 64 1,Zv 64 92])))))))
def cb9:AC:=(.reg [Zl 93 true 4 14,Zv 94 16,Zs 4 8 93,Zv 9 94])
def K4q:Jl:=⟨95,[(.c 8 true 4),.t 9],(.seq cb0 (.seq cb1 (.seq cb2 (.seq R6 (.seq cb4 (.seq cb5 (.seq cb6 (.seq cb7 (.seq cb8 (.seq cb9 .ret))))))))))⟩
theorem Jrf:Gd true prog f313=some K4q:=by kernel_rfl
def Bg(l:Jc)(k q:Nat)(h:J8)(lo n:Nat):Prop:=lo<=k/\k<n/\lo<=q/\q<n/\¬k=q/\h k=some ⟨true,2,[[.int .i64 l.Const,.ref q 0 l.Coeffs.length]]⟩/\h q=some ⟨false,1,Ji l.Coeffs⟩
theorem Jb6{h:J8}{n i5 i7:Nat}{j k x y:Int}(e5:h i5=some ⟨true,1,[[i64 j]]⟩)(e7:h i7=some ⟨true,1,[[i64 k]]⟩){K:AV->J8->Nat->Prop}(hK:K (W5 (Wv j x k y)) h n):X9 prog 331 [i64 x,i64 y,.ptr i5 0 0,.ptr i7 0 0] h n K:=by
 refine U8 func331 Jo9 rfl (by simp[K5v]) ?_;simp[K5v,cm0,cm1,cm2,cm3,e5];refine Je (J2g j x) (by simp) ?_;rintro r rfl;simp[W5,e7];refine Je (J5i (Y1 j x).1 k y) (by simp) ?_;rintro r rfl;simp[W5];unfold W5 Wv at hK;cases h1:(Y1 j x).2
 ·rw[h1]at hK;simpa using hK
 ·rw[h1]at hK;simpa using hK
section
variable {ks:List Kt}{s:Jm}{h h':J8}{n:Nat}{Q:Xb}
theorem Jsi{a:Ke}{va ma:AV}{j:Int}{k4 k5:Nat}(s4:s 4 = .ptr k4 0 0)(s5:s 5 = .ptr k5 0 0)(e4:h k4=some ⟨true,4,[[.int .i64 a.l.Const,va,ma,.int .i64 a.scale]]⟩)(e5:h k5=some ⟨true,1,[[i64 j]]⟩)(A1:Wg a.l.Coeffs va h n)
 (hK:∀s' h' n' k q,(∀i∈[4,5,6,7,8],s' i=s i)->n<=n'->(∀id,id<n->h' id=h id)->s' 11 = .bool (K9 (Jr 0 a.l.Coeffs.length) j a.l).isSome->s' 10 = .ptr k 0 0->Bg ((K9 (Jr 0 a.l.Coeffs.length) j a.l).getD Jj) k q h' n n'->Jt prog ks .normal s' h' n' Q):rC prog cb1 ks s h n Q:=by
 have fr:∀id,id<n->¬id=n/\¬id=n+1/\¬id=n+2/\¬id=n+1+1:=by intro id _;omega
 have ne:¬n=n+1/\¬n+1=n/\¬n=n+1+1/\¬n+1+1=n/\¬n+1=n+1+1/\¬n+1+1=n+1:=by omega
 have hb1:∀y,bw va (upd h n y)=some (.sl 1 (Ji a.l.Coeffs)):=λy=>A1.bwk (Ko.of λid hid=>by simp[fr id hid])
 have hb2:∀y z,bw va (upd (upd h n y) (n+1) z)=some (.sl 1 (Ji a.l.Coeffs)):=λy z=>A1.bwk (Ko.of λid hid=>by simp[fr id hid])
 simp[cb1,s4,e4];refine Ja7 A1 ?_;simp[s4,s5,e4,e5];refine⟨?_,?_⟩
 ·skip;refine Jx (On 0 a.l.Coeffs.length) (by simp) ?_;rintro r rfl;simp[Ja];refine⟨?_,?_⟩
  ·skip;refine Jx (If (Jr 0 a.l.Coeffs.length) j a.l) (by simp[Jb,hb1]) ?_;rintro r rfl;rw[Xm];generalize K9 (Jr 0 a.l.Coeffs.length) j a.l=T at *;simp[Ja];exact hK _ _ _ (n+1+1) (n+1) (by simp) (by omega) (λid hid=>by simp[fr id hid]) (by simp) (by simp) ⟨by omega,by omega,by omega,by omega,by omega,by simp,by simp⟩
  ·skip;refine Jx (If (Jr 0 a.l.Coeffs.length) j a.l) (by simp[Jb,hb2]) ?_;rintro r rfl;rw[Xm];generalize K9 (Jr 0 a.l.Coeffs.length) j a.l=T at *;simp[Ja];exact hK _ _ _ (n+1) (n+1+1) (by simp) (by omega) (λid hid=>by simp[fr id hid]) (by simp) (by simp) ⟨by omega,by omega,by omega,by omega,by omega,by simp,by simp⟩
 ·skip;refine Jx (On 0 a.l.Coeffs.length) (by simp) ?_;rintro r rfl;simp[Ja];refine Jx (If (Jr 0 a.l.Coeffs.length) j a.l) (by simp[Jb,hb2]) ?_;rintro r rfl;rw[Xm];generalize K9 (Jr 0 a.l.Coeffs.length) j a.l=T at *;simp[Ja,ne];exact hK _ _ _ n (n+1+1) (by simp) (by omega) (λid hid=>by simp[fr id hid]) (by simp) (by simp) ⟨by omega,by omega,by omega,by omega,by omega,by simp,by simp[ne]⟩
theorem Jq8{b:Ke}{l:Jc}{vb mb:AV}{k:Int}{k6 k7 k10 q10 lo:Nat}(s6:s 6 = .ptr k6 0 0)(s7:s 7 = .ptr k7 0 0)(s10:s 10 = .ptr k10 0 0)(e6:h k6=some ⟨true,4,[[.int .i64 b.l.Const,vb,mb,.int .i64 b.scale]]⟩)(e7:h k7=some ⟨true,1,[[i64 k]]⟩)(L:Bg l k10 q10 h lo n)(B1:Wg b.l.Coeffs vb h n)(hlo:lo<=n)
 (hK:∀s' h' n' q,(∀i∈[4,5,6,7,8,10,11],s' i=s i)->n<=n'->(∀id,id<lo->h' id=h id)->s' 12 = .bool (K9 l k b.l).isSome->Bg ((K9 l k b.l).getD Jj) k10 q h' lo n'->Jt prog ks .normal s' h' n' Q):rC prog cb2 ks s h n Q:=by
 obtain⟨l1,l2,l3,l4,l5,l6,l7⟩:=L;have fr:∀id,id<n->¬id=n/\¬id=n+1/\¬id=n+2/\¬id=n+1+1:=by intro id _;omega
 have hb:=B1.bw;have ne:¬k10=n/\¬n=k10:=by omega
 simp[cb2,s6,s7,s10,e6,e7,l6];refine Je (If l k b.l) (by simp[Jb,hb,l7]) ?_;rintro r rfl;rw[Xm];generalize K9 l k b.l=T at *;simp[Ja,ne,s10,l6];refine hK _ _ _ n (by simp) (by omega) (λid hid=>by simp[show ¬id=n/\¬id=k10 by omega]) (by simp) ⟨by omega,by omega,by omega,by omega,by omega,by simp,by simp[ne]⟩
end
theorem Jjb{xs:List Int}{v:AV}{h:J8}{n k:Nat}{y:Int}{K:AV->J8->Nat->Prop}(x:Ve xs v h n)(hk:h k=some ⟨false,1,[[i64 y]]⟩)(hvk:∀l,v ≠ .ref k 0 l)(hkn:k<n)(hl:(xs.length+1)*8<=Jd)
 (hK:∀h',h' n=some ⟨false,1,Ji (xs++[y])⟩->(∀id,id≠n->id≠k->(∀l,v ≠ .ref id 0 l)->h' id=h id)->K (.ref n 0 (xs.length+1)) h' (n+1)):Eq 8 1 v (.ref k 0 1) h n K:=by
 rcases x with ⟨rfl,rfl⟩|⟨id,h1,rfl,h3⟩
 ·simp[hk];refine⟨by simpa using hl,hK _ (by simp[Ji]) ?_⟩;intro id h1 h2 _;simp[h1,h2]
 ·have hne:¬id=k:=λe=>hvk xs.length (by rw[e])
  have hne':¬id=n:=by omega
  have hk':¬k=n:=by omega
  have hk2:¬k=id:=λe=>hne e.symm
  simp[hk,h3,hk2];refine⟨by simpa using hl,hK _ (by simp[Ji]) ?_⟩;intro i g1 g2 g3;have:¬i=id:=λe=>g3 xs.length (by rw[e])
  simp[g1,g2,this]
def Kc4:Ke:=⟨⟨0,[]⟩,[],0⟩
theorem Jz6{h:J8}{n:Nat} : X0 Kc4 [.int .i64 0,.nil 1,.nil 1,.int .i64 0] h n:=⟨.nil 1,.nil 1,rfl,.inr (.inl ⟨rfl,rfl⟩),.inl ⟨rfl,rfl⟩⟩
theorem Jdx{a b:Ke}{j k:Int}(h:K9 (Jr 0 a.l.Coeffs.length) j a.l=Option.none):Qn a j b k=Option.none:=by unfold Qn;rw[h]
theorem Jee{a b:Ke}{j k:Int}{l:Jc}(h:K9 (Jr 0 a.l.Coeffs.length) j a.l=some l)(h2:K9 l k b.l=Option.none):Qn a j b k=Option.none:=by unfold Qn;simp only[h,h2]
theorem J8c{a b:Ke}{j k:Int}{l l2:Jc}(h:K9 (Jr 0 a.l.Coeffs.length) j a.l=some l)(h2:K9 l k b.l=some l2):Qn a j b k=if (Wv j a.scale k b.scale).2&&(Yx j a.mult k b.mult).all (·.2)then some ⟨l2,(Yx j a.mult k b.mult).map (·.1),(Wv j a.scale k b.scale).1⟩else Option.none:=by unfold Qn;simp only[h,h2]
def Ip(j:Int)(xs:List Int)(k:Int)(ys:List Int)(i:Nat):List Int:=((Yx j xs k ys).take i).map (·.1)
def Ij(j:Int)(xs:List Int)(k:Int)(ys:List Int)(i:Nat):Bool:=((Yx j xs k ys).take i).all (·.2)
theorem Jbi{j k:Int}{xs ys:List Int}{i:Nat}(hi:i<xs.length)(hy:ys.length=xs.length):Ip j xs k ys (i+1)=Ip j xs k ys i++[(Wv j xs[i] k (ys[i]'(by omega))).1]/\Ij j xs k ys (i+1)=(Ij j xs k ys i&&(Wv j xs[i] k (ys[i]'(by omega))).2):=by
 have hl:i<(Yx j xs k ys).length:=by simp[Yx];omega
 have he:(Yx j xs k ys)[i]=Wv j xs[i] k (ys[i]'(by omega)):=by simp[Yx]
 unfold Ip Ij;rw[List.take_succ_eq_append_getElem hl];simp[he]
theorem Je9{j k:Int}{xs ys:List Int}(hy:ys.length=xs.length):Ip j xs k ys xs.length=(Yx j xs k ys).map (·.1)/\Ij j xs k ys xs.length=(Yx j xs k ys).all (·.2):=by have:(Yx j xs k ys).take xs.length=Yx j xs k ys:=List.take_of_length_le (by simp[Yx];omega);unfold Ip Ij;rw[this];exact⟨rfl,rfl⟩
theorem Jbb{j k:Int}{xs ys:List Int}{i:Nat} : (Ip j xs k ys i).length<=xs.length:=by simp[Ip,Yx];omega
section
variable {ks:List Kt}{s:Jm}{h h':J8}{n:Nat}{Q:Xb}
structure C3 (n0:Nat) (h0:J8) (a b:Ke) (va ma vb mb:AV) (j k:Int) (k14 q:Nat) (l2:Jc) (xs:List Int) (sc:Int) (h:J8) (m:Nat):Prop where
 le:n0+5<=k14
 lt:k14<m
 q0:n0+5<=q
 qm:q<m
 fr:∀id,id<n0->h id=h0 id
 e4:h n0=some ⟨true,4,[[.int .i64 a.l.Const,va,ma,.int .i64 a.scale]]⟩
 e5:h (n0+1)=some ⟨true,1,[[i64 j]]⟩
 e6:h (n0+2)=some ⟨true,4,[[.int .i64 b.l.Const,vb,mb,.int .i64 b.scale]]⟩
 e7:h (n0+3)=some ⟨true,1,[[i64 k]]⟩
 e8:h (n0+4)=some ⟨true,4,[[.int .i64 0,.nil 1,.nil 1,.int .i64 0]]⟩
 eq:h q=some ⟨false,1,Ji l2.Coeffs⟩
 e14:∃vm,h k14=some ⟨true,4,[[.int .i64 l2.Const,.ref q 0 l2.Coeffs.length,vm,.int .i64 sc]]⟩/\Ve xs vm h m/\∀id l,vm = .ref id 0 l->n0+5<=id/\id≠q
theorem C3.step {n0:Nat}{h0:J8}{a b:Ke}{va ma vb mb:AV}{j k:Int}{k14 q:Nat}{l2:Jc}{xs xs':List Int}{sc:Int}{h h':J8}{m m':Nat}{vm:AV}(S:C3 n0 h0 a b va ma vb mb j k k14 q l2 xs sc h m) (hm:m<=m') (hf:∀id,id<n0+5->h' id=h id) (hq:h' q=h q)
 (e:h' k14=some ⟨true,4,[[.int .i64 l2.Const,.ref q 0 l2.Coeffs.length,vm,.int .i64 sc]]⟩) (hx:Ve xs' vm h' m') (hv:∀id l,vm = .ref id 0 l->n0+5<=id/\id≠q):C3 n0 h0 a b va ma vb mb j k k14 q l2 xs' sc h' m':=by
 obtain⟨S1,S2,S3,S4,S5,S6,S7,S8,S9,S10,S11,_⟩:=S;exact⟨S1,by omega,S3,by omega,λid hid=>by rw[hf id (by omega)];exact S5 id hid,by rw[hf _ (by omega)];exact S6,by rw[hf _ (by omega)];exact S7,by rw[hf _ (by omega)];exact S8,by rw[hf _ (by omega)];exact S9,by rw[hf _ (by omega)];exact S10,by rw[hq];exact S11,vm,e,hx,hv⟩
theorem Jod{n0:Nat}{h0:J8}{a b:Ke}{va ma vb mb:AV}{j k:Int}{k14:Nat}{sc:Int}{l2:Jc}{q:Nat}(hml:b.mult.length=a.mult.length)(hm20:a.mult.length<=20)(A2:Ve a.mult ma h0 n0)(B2:Ve b.mult mb h0 n0)(ok:Bool)
 (s4:s 4 = .ptr n0 0 0) (s6:s 6 = .ptr (n0+2) 0 0) (s13:s 13 = .fn (.func 331) [] [.ptr (n0+1) 0 0,.ptr (n0+3) 0 0]) (s14:s 14 = .ptr k14 0 0) (s16:s 16 = .bool ok)
 (S0:C3 n0 h0 a b va ma vb mb j k k14 q l2 [] sc h n)
 (hK:∀s' h' n',(∀i∈[8,14],s' i=s i)->s' 16 = .bool (ok&&(Yx j a.mult k b.mult).all (·.2))->n<=n'->C3 n0 h0 a b va ma vb mb j k k14 q l2 ((Yx j a.mult k b.mult).map (·.1)) sc h' n'->Jt prog ks .normal s' h' n' Q):rC prog cb8 ks s h n Q:=by
 have hA0:Wg a.mult ma h n := .inr (A2.keep (by have:=S0.le;have:=S0.lt;omega) (Ko.of S0.fr));simp[cb8,s4,S0.e4];refine Jj3 hA0 ?_ (by unfold Jd;omega);intro _;simp;refine Ka [4,6,8,13,14,63] 64 a.mult.length (λi s h m=>n<=m/\s 16 = .bool (ok&&Ij j a.mult k b.mult i)/\C3 n0 h0 a b va ma vb mb j k k14 q l2 (Ip j a.mult k b.mult i) sc h m) (by unfold Jd;omega) (by simp) ⟨Nat.le_refl _,by simp[Ij,s16],S0⟩ ?_ ?_
 ·rintro i st h m R hi hg hk s64 hw ⟨hnm,s16,S⟩ hR hret _;simp at hk;have hib:i<b.mult.length:=by omega
  obtain⟨g1,g2⟩:=Jbi (j:=j) (k:=k) (xs:=a.mult) (ys:=b.mult) hi hml;have S':=S;obtain⟨S1,S2,Sq0,Sqm,S3,S4,S5,S6,S7,S8,Sq,vm,S9,S10,S11⟩:=S;have hA:Wg a.mult ma h m := .inr (A2.keep (by omega) (Ko.of S3));have hB:Wg b.mult mb h m := .inr (B2.keep (by omega) (Ko.of S3));refine Jq [4,6,8,13,14,16,63,64] (λs=>s 65 = .bool true) (by simp[hk,s64,hi]) ?_;intro Jv hk1 s65;simp at hk1;refine W3 s65 (Jn (Xd ?_));refine Jq [4,6,8,13,14,16,63,64] (λs=>s 17 = .int .i64 i) (by simp[hk1,s64]) ?_;intro st2 hk2 s17;simp at hk2;refine Jq [4,6,8,13,14,16,63,64] (λs=>s 18 = .int .i64 (Wv j a.mult[i] k b.mult[i]).1/\s 19 = .bool (Wv j a.mult[i] k b.mult[i]).2) ?_ ?_
  ·simp[Kci,hk2,hk1,hk,s4,s13,s17,S4];refine F4 hA hi ?_;intro w1 hw1;simp;refine hw1 _ ?_;simp[hk2,hk1,hk,s6,s17,S6];refine F4 hB hib ?_;intro w2 hw2;simp;refine hw2 _ ?_;simp;refine Jb6 S5 S7 ?_;simp[W5]
  rintro Kq hk3 ⟨s18,s19⟩;simp at hk3;generalize(Wv j a.mult[i] k b.mult[i]).1=y at *;generalize(Wv j a.mult[i] k b.mult[i]).2=ob at *;have x1:¬k14=m:=by omega
  have x2:¬k14=m+1:=by omega
  have vne:∀id,(∃z rows,h id=some ⟨true,z,rows⟩)->∀l,vm ≠ .ref id 0 l:=λid he l e=>by
   obtain⟨z,rows,he⟩:=he;rcases S10 with ⟨rfl,_⟩|⟨id',q1,rfl,q3⟩
   ·cases e
   ·simp at e;rw[e.1,he]at q3;simp at q3
  have vlt:∀id,m<=id->∀l,vm ≠ .ref id 0 l:=λid he l e=>by
   rcases S10 with ⟨rfl,_⟩|⟨id',q1,rfl,q3⟩
   ·cases e
   ·simp at e;omega
  have vmx:Ve (Ip j a.mult k b.mult i) vm (upd h m (some ⟨false,1,[[i64 y]]⟩)) (m+1):=S10.keep (Nat.le_succ m) (Ko.of λid hid=>by rw[Yk];omega);have hl:=Jbb (j:=j) (k:=k) (xs:=a.mult) (ys:=b.mult) (i:=i);refine Xu [4,6,8,13,14,16,19,63,64] (λs h' m'=>m<=m'/\C3 n0 h0 a b va ma vb mb j k k14 q l2 (Ip j a.mult k b.mult (i+1)) sc h' m') ?_ ?_
  ·simp[Kch,hk3,hk2,hk1,hk,s14,s18,S9];refine Jjb (y:=y) vmx (by simp) (vlt m (Nat.le_refl m)) (Nat.lt_succ_self m) (by unfold Jd;omega) ?_;intro h' f1 f2
   have old:∀id,id<m->(∀l,vm ≠ .ref id 0 l)->h' id=h id:=λid hid hv=>by rw[f2 id (by omega) (by omega) hv,Yk];omega
   have y14:=old k14 S2 (vne k14 ⟨_,_,S9⟩);rw[S9]at y14;simp[hk3,hk2,hk1,hk,s14,y14];refine⟨by omega,S'.step (vm := .ref (m+1) 0 ((Ip j a.mult k b.mult i).length+1)) (by omega) ?_ ?_ (by simp) ?_ ?_⟩
   ·intro id hid;have:¬id=k14:=by omega
    simp[this];refine old id (by omega) λl e=>?_
    have:=(S11 id l e).1;omega
   ·have:¬q=k14:=by rintro rfl;rw[S9]at Sq;simp at Sq
    simp[this];exact old q Sqm λl e=>(S11 q l e).2 rfl
   ·refine .inr ⟨m+1,by omega,by rw[g1];simp,?_⟩;have:¬m+1=k14:=by omega
    simp[this,f1,g1]
   ·intro id l e;simp at e;omega
  rintro st4 h4 m4 hk4 ⟨hm4,S4'⟩;simp at hk4;have g3:(ok&&Ij j a.mult k b.mult (i+1))=((ok&&Ij j a.mult k b.mult i)&&ob):=by rw[g2,Bool.and_assoc]
  generalize(ok&&Ij j a.mult k b.mult i)=bo at *;generalize(ok&&Ij j a.mult k b.mult (i+1))=bo2 at *;subst g3;cases bo
  ·simp[K4f,hk4,hk3,hk2,hk1,s16,s64,hw];exact hR _ _ _ (by simp[hk4,hk3,hk2,hk1,hk]) (by simp) ⟨by omega,by simp,S4'⟩
  ·simp[K4f,hk4,hk3,hk2,hk1,s16,s19,s64,hw];exact hR _ _ _ (by simp[hk4,hk3,hk2,hk1,hk]) (by simp) ⟨by omega,by simp,S4'⟩
 ·rintro st h m R hk s64 ⟨hnm,s16,S⟩ hret hX;simp at hk;obtain⟨g1,g2⟩:=Je9 (j:=j) (k:=k) (xs:=a.mult) (ys:=b.mult) hml;rw[g1]at S;rw[g2]at s16;refine Jq [8,14,16] (λs=>s 65 = .bool false) (by simp[hk,s64]) ?_;intro Jv hk1 s65;simp at hk1;refine Uv s65 ?_;refine hX _ _ _ _ ?_;simp;exact hK _ _ _ (by simp[hk1,hk]) (by rw[hk1.2.2];exact s16) hnm S
end
def sc0:AC:=(.reg [Zz 8 1,Zt 9 false])
def sc1:AC:=(.reg [Zo 18 (.bsl 1 []),Zv 10 18])
def sca:AC:=(.reg [Zv 26 0,Zv 27 11,Zx 28 1 26 27,Zl 29 false 1 28,Zv 30 1,Zc 31 263 [.t 29,.t 30],Zv 25 31,Ze 32 25 0,Ze 33 25 1,Zv 12 32,Zv 13 33])
def scb:AC:=(.reg [Zv 35 2,Zv 36 11,Zx 37 1 35 36,Zl 38 false 1 37,Zv 39 3,Zc 40 263 [.t 38,.t 39],Zv 34 40,Ze 41 34 0,Ze 42 34 1,Zv 14 41,Zv 15 42])
def scc:AC:=(.reg [Zv 44 12,Zv 45 14,Zc 46 264 [.t 44,.t 45],Zv 43 46,Ze 47 43 0,Ze 48 43 1,Zv 16 47,Zv 17 48])
def scd:AC:=(.reg [Zv 60 10,Zv 61 16,ZS 62 1 61,ZA 63 8 1 60 62,Zv 10 63])
def sc2:AC:=(Zq [Zi 11 0] (.blk 0 (.loop (.seq (Zq [Zv 19 11,Zv 20 0,Zn 21 20,Zb 22 .lss 19 21] (Zw 22 0)) (.seq (.blk 1 (.seq  sca (.seq  scb (.seq  scc (.seq (Zq [Zv 49 13,ZN 50 49,Zv 51 50,Zg 52 51 false (.mv (.t 15)),Zg 53 51 false (.un .not (.t 52)),ZP 54 51 53,Zv 55 54,Zg 56 55 false (.mv (.t 17)),Zg 57 55 false (.un .not (.t 56)),ZP 58 55 57] (.cond (.t 58) (Zq [Zo 59 (.bsl 1 []),Zv 8 59,Zt 9 false] .ret) .skip))  scd))))) (.reg [Zv 23 11,Zk 24 .add 23 1,Zv 11 24]))))))
def sc3:AC:=(.reg [Zv 64 10,Zv 8 64,Zt 9 true])
def K6t:Jl:=⟨65,[.t 8,.t 9],(.seq sc0 (.seq sc1 (.seq sc2 (.seq sc3 .ret))))⟩
theorem Jpg:Gd true prog f330=some K6t:=by kernel_rfl
theorem Jck{m:Nat} : List.replicate m [i64 0]=Ji (List.replicate m 0):=by unfold Ji;rw[List.map_replicate]
theorem J79(x y:Int):Y1 x y=Y1 y x:=by unfold Y1;rw[Int.mul_comm x y,Bool.and_comm (Kx x) (Kx y)]
def Cb(j:Int)(xs:List Int)(k:Int)(ys:List Int):List Int:=if (Yx j xs k ys).all (·.2)then(Yx j xs k ys).map (·.1)else []
theorem Jm7{j k:Int}{xs ys:List Int}{i:Nat}(h:Ij j xs k ys i=false):(Yx j xs k ys).all (·.2)=false:=by unfold Ij at h;rw[<-List.take_append_drop i (Yx j xs k ys),all_append,h];rfl
theorem J97(xs ys:List Int)(j k:Int)(hy:ys.length=xs.length)(hl:xs.length<=100):Holds prog 330 [.sl 1 (Ji xs),i64 j,.sl 1 (Ji ys),i64 k] (λr=>r = .tup [.us 1 (Ji (Cb j xs k ys)),.bool ((Yx j xs k ys).all (·.2))]):=by
 refine Jp func330 Jpg rfl (by simp[K6t]) ?_;simp[K6t,sc0,sc1,sc2];refine Ka [0,1,2,3] 11 xs.length (λi s h m=>Ij j xs k ys i=true/\∃id,id<m/\s 10 = .ref id 0 (Ip j xs k ys i).length/\h id=some ⟨false,1,Ji (Ip j xs k ys i)⟩) (by unfold Jd;omega) (by simp) ⟨by simp[Ij],0,by simp,by simp[Ip],by simp[Ip,Ji]⟩ ?_ ?_
 ·rintro i st h m R hi hg hk s11 hw ⟨hb,id,hid,s10,eid⟩ hR hret _;simp at hk;have hib:i<ys.length:=by omega
  obtain⟨g1,g2⟩:=Jbi (j:=j) (k:=k) (xs:=xs) (ys:=ys) hi hy;refine Jn (Jq [0,1,2,3,10,11] (λs=>s 22 = .bool true) (by simp[hk,s11,hi]) ?_);intro Jv hk1 s22;simp at hk1;refine U2 s22 (Jn (Xd ?_));refine Jq [0,1,2,3,10,11] (λs=>s 12 = .int .i64 (Y1 j xs[i]).1/\s 13 = .bool (Y1 j xs[i]).2) ?_ ?_
  ·simp[sca,hk1,hk,s11,hi];refine Je (J07 (xs[i]'hi) j) (by simp) ?_;rintro r rfl;rw[J79];simp[W5]
  rintro st2 hk2 ⟨s12,s13⟩;simp at hk2;refine Jq [0,1,2,3,10,11,12,13] (λs=>s 14 = .int .i64 (Y1 k ys[i]).1/\s 15 = .bool (Y1 k ys[i]).2) ?_ ?_
  ·simp[scb,hk2,hk1,hk,s11,hib];refine Je (J07 (ys[i]'hib) k) (by simp) ?_;rintro r rfl;rw[J79];simp[W5]
  rintro Kq hk3 ⟨s14,s15⟩;simp at hk3;refine Jq [0,1,2,3,10,11,13,15] (λs=>s 16 = .int .i64 (Wv j xs[i] k ys[i]).1/\s 17 = .bool (Uz (Y1 j xs[i]).1 (Y1 k ys[i]).1).2) ?_ ?_
  ·simp[scc,hk3,s12,s14];refine Je (J1b (Y1 j xs[i]).1 (Y1 k ys[i]).1) (by simp) ?_;rintro r rfl;simp[W5,Wv,Om]
  rintro st4 hk4 ⟨s16,s17⟩;simp at hk4;have hok:(Wv j xs[i] k ys[i]).2=((Y1 j xs[i]).2&&((Y1 k ys[i]).2&&(Uz (Y1 j xs[i]).1 (Y1 k ys[i]).1).2)):=rfl;have x13:st4 13 = .bool (Y1 j xs[i]).2:=by rw[hk4.2.2.2.2.2.2.1,hk3.2.2.2.2.2.2.2,s13]
  have x15:st4 15 = .bool (Y1 k ys[i]).2:=by rw[hk4.2.2.2.2.2.2.2,s15]
  have x10:st4 10 = .ref id 0 (Ip j xs k ys i).length:=by rw[hk4.2.2.2.2.1,hk3.2.2.2.2.1,hk2.2.2.2.2.1,hk1.2.2.2.2.1,s10]
  have hbad:Ij j xs k ys (i+1)=false->Cb j xs k ys=[]/\(Yx j xs k ys).all (·.2)=false:=λh=>by have:=Jm7 h;exact⟨by unfold Cb;rw[this];rfl,this⟩
  have hne:¬id=m:=by omega
  have hml:=Jbb (j:=j) (k:=k) (xs:=xs) (ys:=ys) (i:=i);rw[hb,Bool.true_and,hok]at g2;cases c1:(Y1 j xs[i]).2 <;>rw[c1]at x13 g2
  ·obtain⟨y1,y2⟩:=hbad (by rw[g2];rfl);simp[x13];refine hret _ _ _ ?_;simp[y1,y2,Ji]
  cases c2:(Y1 k ys[i]).2 <;>rw[c2]at x15 g2
  ·obtain⟨y1,y2⟩:=hbad (by rw[g2];rfl);simp[x13,x15];refine hret _ _ _ ?_;simp[y1,y2,Ji]
  cases c3:(Uz (Y1 j xs[i]).1 (Y1 k ys[i]).1).2 <;>rw[c3]at s17 g2
  ·obtain⟨y1,y2⟩:=hbad (by rw[g2];rfl);simp[x13,x15,s17];refine hret _ _ _ ?_;simp[y1,y2,Ji]
  simp[x13,x15,s17,scd,x10,s16,eid,hne];refine⟨λe=>hne e.symm,by unfold Jd;omega,?_⟩;simp[hk4,hk3,hk2,hk1,s11,hw];have ht:Ij j xs k ys (i+1)=true:=by rw[g2];rfl
  refine hR _ _ _ (by simp[hk4,hk3,hk2,hk1,hk]) (by simp) ⟨ht,m+1,by omega,by rw[g1];simp,by rw[g1];simp[Ji]⟩
 ·rintro st h m R hk s11 ⟨hb,id,hid,s10,eid⟩ hret hX;simp at hk;obtain⟨g1,g2⟩:=Je9 (j:=j) (k:=k) (xs:=xs) (ys:=ys) hy;rw[g1]at s10 eid;rw[g2]at hb;have hv:Cb j xs k ys=(Yx j xs k ys).map (·.1):=by unfold Cb;rw[hb];rfl
  refine Jn (Jq [10] (λs=>s 22 = .bool false) (by simp[hk,s11]) ?_);intro Jv hk1 s22;simp at hk1;refine U1 s22 ?_;refine hX _ _ _ _ ?_;rw[hv,hb];have ht:List.take (Yx j xs k ys).length (Ji ((Yx j xs k ys).map (·.1)))=Ji ((Yx j xs k ys).map (·.1)):=List.take_of_length_le (by simp);simp[sc3,hk1,s10,eid,ht]
def jn0:AC:=(.reg [ZB 3 0,ZB 4 1,Zo 6 (.box [(.int .i64 0),(.nil 1),(.nil 1)]),Zt 7 false])
def jn1:AC:=(.reg [Zf 17 0 3,Zf 18 1 17,Zl 19 false 1 18,Zv 20 2,Zx 21 1 19 20,Zl 22 false 1 21,Zv 8 22])
def jn2:AC:=(.reg [Zf 23 0 4,Zf 24 1 23,Zl 25 false 1 24,Zv 26 2,Zx 27 1 25 26,Zl 28 false 1 27,Zo 29 (.bin .sub (.k (.int .i64 0)) (.t 28)),Zv 9 29])
def jn3:AC:=(.reg [Zv 30 8,Zv 31 9,Zc 32 329 [.t 30,.t 31],Zc 33 270 [.t 32,(.k (.int .i64 1))],Zv 10 33])
def jn4:AC:=(.draw (.op (Zf 35 0 3) (.op (Zf 36 1 35) (.op (Zl 37 false 1 36) (.op (Zn 38 37) (.op (Zv 41 9) (.op (Zv 42 10) (.op (Zb 43 .quo 41 42) (.op (Zf 44 0 3) (.op (Zl 45 true 2 44) (.both (.op (Zo 39 (.mks 8 [(.int .i64 0)] (.t 38) (.t 38))) (.op (Zo 40 (.build [(.int .i64 0),(.nil 1)] [(1,(1,(.t 39)))])) (.both (.op (Zc 46 98 [.t 40,.t 43,.t 45]) (.op (Zv 34 46) (.op (Ze 47 34 0) (.op (Ze 48 34 1) (.op (ZR 11) (.hop (Zs 2 11 47) [] (.op (Zv 12 48) .fin))))))) (.op (ZR 11) (.op (Zc 46 98 [.t 40,.t 43,.t 45]) (.op (Zv 34 46) (.op (Ze 47 34 0) (.op (Ze 48 34 1) (.hop (Zs 2 11 47) [] (.op (Zv 12 48) .fin)))))))))) (.op (ZR 11) (.op (Zo 39 (.mks 8 [(.int .i64 0)] (.t 38) (.t 38))) (.op (Zo 40 (.build [(.int .i64 0),(.nil 1)] [(1,(1,(.t 39)))])) (.op (Zc 46 98 [.t 40,.t 43,.t 45]) (.op (Zv 34 46) (.op (Ze 47 34 0) (.op (Ze 48 34 1) (.hop (Zs 2 11 47) [] (.op (Zv 12 48) .fin))))))))))))))))))))
def jn5:AC:=(.draw (.op (Zl 50 true 2 11) (.op (Zv 51 8) (.op (Zv 52 10) (.op (Zb 53 .quo 51 52) (.op (Zf 54 0 4) (.op (Zl 55 true 2 54) (.both (.op (Zc 56 98 [.t 50,.t 53,.t 55]) (.op (Zv 49 56) (.op (Ze 57 49 0) (.op (Ze 58 49 1) (.op (ZR 13) (.hop (Zs 2 13 57) [] (.op (Zv 14 58) .fin))))))) (.op (ZR 13) (.op (Zc 56 98 [.t 50,.t 53,.t 55]) (.op (Zv 49 56) (.op (Ze 57 49 0) (.op (Ze 58 49 1) (.hop (Zs 2 13 57) [] (.op (Zv 14 58) .fin)))))))))))))))
def jn6:AC:=(.draw (.op (Zf 60 2 3) (.op (Zl 61 false 1 60) (.op (Zv 62 9) (.op (Zv 63 10) (.op (Zb 64 .quo 62 63) (.op (Zf 65 2 4) (.op (Zl 66 false 1 65) (.op (Zv 67 8) (.op (Zv 68 10) (.op (Zb 69 .quo 67 68) (.op (Zc 70 330 [.t 61,.t 64,.t 66,.t 69]) (.op (Zv 59 70) (.op (Ze 71 59 0) (.op (Ze 72 59 1) (.op (Zv 15 71) (.op (Zv 16 72) .fin)))))))))))))))))
def jn7:AC:=(.reg [Zl 73 true 2 13,Zv 74 15,Zo 75 (.build [(.int .i64 0),(.nil 1),(.nil 1)] [(0,(2,(.t 73))),(2,(1,(.t 74)))]),Zv 76 12,Zv 77 76,Zg 78 77 true (.mv (.t 14)),ZQ 79 77 78,Zv 80 79,Zg 81 80 true (.mv (.t 16)),ZQ 82 80 81,Zs 3 6 75,Zv 7 82])
def K88:Jl:=⟨83,[(.c 6 true 3),.t 7],(.seq jn0 (.seq jn1 (.seq jn2 (.seq jn3 (.seq jn4 (.seq jn5 (.seq jn6 (.seq jn7 .ret))))))))⟩
theorem Jqo:Gd true prog f304=some K88:=by kernel_rfl
theorem J2y{j k s t:Int}{xs ys:List Int}(h:ys.length=xs.length):Yx j (xs++[s]) k (ys++[t])=Yx j xs k ys++[Wv j s k t]:=by unfold Yx;rw[List.zipWith_append h.symm];rfl
theorem bwA{c:Int}{l:List Int}{v:AV}{h:J8}(x:Go.Proofs.YtoclolkigjbcgaaGreat.bw v h=some (.sl 1 (Ji l))):Go.Proofs.YtoclolkigjbcgaaGreat.bw (.agg [.int .i64 c,v]) h=some (.agg (Jb ⟨c,l⟩)):=by simp only[Go.Proofs.YtoclolkigjbcgaaGreat.bw,U5,x];rfl
section
variable {ks:List Kt}{s:Jm}{h h':J8}{n:Nat}{Q:Xb}
theorem Jnr{a:Ke}{va ma:AV}{N m k3:Nat}{q g:Int}(ga:GD N m a)(hq:0<=q/\q<=1000000000)(hg0:0<g)(s3:s 3 = .ptr k3 0 0)(s9:s 9 = .int .i64 q)(s10:s 10 = .int .i64 g)(e3:h k3=some ⟨true,3,[[.int .i64 a.l.Const,va,ma]]⟩)(A1:Wg a.l.Coeffs va h n)
 (hK:∀s' h' n' k r,(∀i∈[3,4,6,8,9,10],s' i=s i)->n<=n'->(∀id,id<n->h' id=h id)->s' 12 = .bool (K9 (Jr 0 a.l.Coeffs.length) (q.tdiv g) a.l).isSome->s' 11 = .ptr k 0 0->Bg ((K9 (Jr 0 a.l.Coeffs.length) (q.tdiv g) a.l).getD Jj) k r h' n n'->Jt prog ks .normal s' h' n' Q):rC prog jn4 ks s h n Q:=by
 have fr:∀id,id<n->¬id=n/\¬id=n+1/\¬id=n+2/\¬id=n+1+1:=by intro id _;omega
 have ne:¬n=n+1/\¬n+1=n/\¬n=n+1+1/\¬n+1+1=n/\¬n+1=n+1+1/\¬n+1+1=n+1:=by omega
 have w1:=Cn (g:=g) hq.1 hq.2 (by omega);have v1:IntKind.i64.wrap (q.tdiv g)=q.tdiv g:=Km (by omega);have hgn:¬g=0:=by omega
 have h8:=Wj ga.ok;have hcl:=ga.cl;have hc0:Jr 0 (a.l.Coeffs.length:Int)=⟨0,List.replicate a.l.Coeffs.length 0⟩:=(F3 (by decide) (by omega)).1;have hz:=Jck (m:=a.l.Coeffs.length);have hz0:=hz;simp only[i64]at hz0
 have hcall:∀{H:J8}{M z:Nat}{K:AV->J8->Nat->Prop},H z=some ⟨false,1,List.replicate a.l.Coeffs.length [.int .i64 0]⟩->Ko h H n->(∀T,T=K9 (Jr 0 a.l.Coeffs.length) (q.tdiv g) a.l->K (.tup [.agg [.int .i64 (T.getD Jj).Const,.ref M 0 (T.getD Jj).Coeffs.length],.bool T.isSome]) (upd H M (some ⟨false,1,Ji (T.getD Jj).Coeffs⟩)) (M+1))->X9 prog 98 [.agg [.int .i64 0,.ref z 0 a.l.Coeffs.length],i64 (q.tdiv g),.agg [.int .i64 a.l.Const,va]] H M (Go.Proofs.YtoclolkigjbcgaaGreat.hK H K):=by
  intro H M z K hH hkp hk;refine Jx (Vp (Jr 0 a.l.Coeffs.length) (q.tdiv g) a.l) ?_ ?_
  ·have hb:bw (.ref z 0 a.l.Coeffs.length) H=some (.sl 1 (Ji (List.replicate a.l.Coeffs.length 0))):=by
    simp[hH]
   rw[hc0];simp only[U5,bwA hb,bwA (A1.bwk hkp)];rfl
  ·rintro r rfl;rw[Xm];have:=hk _ rfl;simpa[Ja]using this
 simp[jn4,s3,e3];refine Ja7 A1 ?_;simp[hgn,v1,s3,e3,s9,s10];have hkp1:∀y,Ko h (upd h n y) n:=λy=>Ko.of λid hid=>by simp[fr id hid]
 have hkp2:∀y z,Ko h (upd (upd h n y) (n+1) z) n:=λy z=>Ko.of λid hid=>by simp[fr id hid]
 refine⟨⟨by unfold Jd;omega,?_,?_⟩,by unfold Jd;omega,?_⟩
 ·refine hcall (z:=n) (by simp) (hkp1 _) ?_;intro T hT;simp;rw[<-hT]at hK;exact hK _ _ _ (n+1+1) (n+1) (by simp) (by omega) (λid hid=>by simp[fr id hid]) (by simp) (by simp) ⟨by omega,by omega,by omega,by omega,by omega,by simp,by simp⟩
 ·refine hcall (z:=n) (by simp) (hkp2 _ _) ?_;intro T hT;simp;rw[<-hT]at hK;exact hK _ _ _ (n+1) (n+1+1) (by simp) (by omega) (λid hid=>by simp[fr id hid]) (by simp) (by simp) ⟨by omega,by omega,by omega,by omega,by omega,by simp,by simp⟩
 ·refine hcall (z:=n+1) (by simp) (hkp2 _ _) ?_;intro T hT;simp[ne];rw[<-hT]at hK;exact hK _ _ _ n (n+1+1) (by simp) (by omega) (λid hid=>by simp[fr id hid]) (by simp) (by simp) ⟨by omega,by omega,by omega,by omega,by omega,by simp,by simp[ne]⟩
theorem Jp8{b:Ke}{vb mb:AV}{N m k4 k11 q11 lo:Nat}{p g:Int}{l:Jc}(hp:0<=p/\p<=1000000000)(hg0:0<g)(s4:s 4 = .ptr k4 0 0)(s8:s 8 = .int .i64 p)(s10:s 10 = .int .i64 g)(s11:s 11 = .ptr k11 0 0)(e4:h k4=some ⟨true,3,[[.int .i64 b.l.Const,vb,mb]]⟩)(L:Bg l k11 q11 h lo n)(B1:Wg b.l.Coeffs vb h n)
 (hK:∀s' h' n' k r,(∀i∈[3,4,6,8,9,10,12],s' i=s i)->n<=n'->(∀id,id<n->h' id=h id)->s' 14 = .bool (K9 l (p.tdiv g) b.l).isSome->s' 13 = .ptr k 0 0->Bg ((K9 l (p.tdiv g) b.l).getD Jj) k r h' n n'->Jt prog ks .normal s' h' n' Q):rC prog jn5 ks s h n Q:=by
 obtain⟨l1,l2,l3,l4,l5,l6,l7⟩:=L;have fr:∀id,id<n->¬id=n/\¬id=n+1/\¬id=n+2/\¬id=n+1+1:=by intro id _;omega
 have ne:¬n=n+1/\¬n+1=n/\¬n=n+1+1/\¬n+1+1=n/\¬n+1=n+1+1/\¬n+1+1=n+1:=by omega
 have w1:=Cn (g:=g) hp.1 hp.2 (by omega);have v1:IntKind.i64.wrap (p.tdiv g)=p.tdiv g:=Km (by omega);have hgn:¬g=0:=by omega
 have hcall:∀{H:J8}{M:Nat}{K:AV->J8->Nat->Prop},Ko h H n->(∀T,T=K9 l (p.tdiv g) b.l->K (.tup [.agg [.int .i64 (T.getD Jj).Const,.ref M 0 (T.getD Jj).Coeffs.length],.bool T.isSome]) (upd H M (some ⟨false,1,Ji (T.getD Jj).Coeffs⟩)) (M+1))->X9 prog 98 [.agg [.int .i64 l.Const,.ref q11 0 l.Coeffs.length],i64 (p.tdiv g),.agg [.int .i64 b.l.Const,vb]] H M (Go.Proofs.YtoclolkigjbcgaaGreat.hK H K):=by
  intro H M K hkp hk;refine Jx (Vp l (p.tdiv g) b.l) ?_ ?_
  ·have hb:bw (.ref q11 0 l.Coeffs.length) H=some (.sl 1 (Ji l.Coeffs)):=by
    have:=hkp q11 _ _ l4 l7;simp[this]
   simp only[U5,bwA hb,bwA (B1.bwk hkp)];rfl
  ·rintro r rfl;rw[Xm];have:=hk _ rfl;simpa[Ja]using this
 simp[jn5,s4,s8,s10,s11,e4,l6,hgn,v1];refine⟨?_,?_⟩
 ·refine hcall (Ko.of λ_ _=>rfl) ?_;intro T hT;simp;rw[<-hT]at hK;exact hK _ _ _ (n+1) n (by simp) (by omega) (λid hid=>by simp[fr id hid]) (by simp) (by simp) ⟨by omega,by omega,by omega,by omega,by omega,by simp,by simp⟩
 ·refine hcall (Ko.of λid hid=>by simp[fr id hid]) ?_;intro T hT;simp;rw[<-hT]at hK;exact hK _ _ _ n (n+1) (by simp) (by omega) (λid hid=>by simp[fr id hid]) (by simp) (by simp) ⟨by omega,by omega,by omega,by omega,by omega,by simp,by simp⟩
end
theorem J3f{a b:Ke}{va ma vb mb:AV}{N m v:Nat}{h:J8}{n:Nat}{K:AV->J8->Nat->Prop}(ga:GD N m a)(gb:GD N m b)(hm:m<=20)(hv:v<N)(hpa:0<Kf v a)(hqb:Kf v b<0)(A1:Wg a.l.Coeffs va h n)(A2:Ve (a.mult++[a.scale]) ma h n)(B1:Wg b.l.Coeffs vb h n)(B2:Ve (b.mult++[b.scale]) mb h n)
 (hK:∀h' n' c k1 l1 k2 l2,n<=n'->(∀id,id<n->h' id=h id)->(∀d,Gf v a b=some d->Xa d [.int .i64 c,.ref k1 0 l1,.ref k2 0 l2] h' n')->K (.tup [.agg [.int .i64 c,.ref k1 0 l1,.ref k2 0 l2],.bool (Gf v a b).isSome]) h' n') :
 X9 prog 304 [.agg [.int .i64 a.l.Const,va,ma],.agg [.int .i64 b.l.Const,vb,mb],i64 v] h n K:=by
 refine U8 func304 Jqo rfl (by simp[K88]) ?_;unfold K88;have c1:=A1.cell;have c2:=A2.cell;have c3:=B1.cell;have c4:=B2.cell;have hpa':=Oh.1 (ga.coef hv);have hqb':=Oh.1 (gb.coef hv);have hvl:v<a.l.Coeffs.length:=by rw[ga.cl];exact hv
 have hvl2:v<b.l.Coeffs.length:=by rw[gb.cl];exact hv
 have hca:a.l.Coeffs[v]=Kf v a:=by simp[Kf,hvl]
 have hcb:b.l.Coeffs[v]=Kf v b:=by simp[Kf,hvl2]
 have fr0:∀id,id<n->¬id=n/\¬id=n+1/\¬id=n+1+1:=by intro id _;omega
 have ne:¬n=n+1+1/\¬n=n+1/\¬n+1=n+1+1/\n+2=n+1+1:=by omega
 refine Xu [2] (λs h' m=>m=n+3/\(s 3 = .ptr n 0 0/\s 4 = .ptr (n+1) 0 0/\s 6 = .ptr (n+2) 0 0)/\(∀id,id<n->h' id=h id) /\
  h' n=some ⟨true,3,[[.int .i64 a.l.Const,va,ma]]⟩/\h' (n+1)=some ⟨true,3,[[.int .i64 b.l.Const,vb,mb]]⟩/\h' (n+2)=some ⟨true,3,[[.int .i64 0,.nil 1,.nil 1]]⟩) ?_ ?_
 ·simp[jn0,-Kb,c1,c2,c3,c4];simp[Kb];refine⟨λid hid=>?_,?_⟩
  ·simp[fr0 id hid]
  ·simp[ne]
 rintro s1 h1 n1 hk1 ⟨rfl,⟨s3,s4,s6⟩,fr,e3,e4,e6⟩;simp at hk1;have kp1:Ko h h1 n:=Ko.of fr;refine Jq [2,3,4,6] (λs=>s 8 = .int .i64 (Kf v a)) ?_ ?_
 ·simp[jn1,s3,hk1,e3];refine F4 (A1.keep (by omega) kp1) hvl ?_;intro w1 hw1;simp;refine hw1 _ ?_;rw[hca];simp
 intro s2 hk2 s8;simp at hk2;have hw:IntKind.i64.wrap (0 - Kf v b) = -(Kf v b):=by rw[Km (by omega)];omega
 simp at hw;refine Jq [2,3,4,6,8] (λs=>s 9 = .int .i64 (-(Kf v b))) ?_ ?_
 ·simp[jn2,s4,hk2,hk1,e4];refine F4 (B1.keep (by omega) kp1) hvl2 ?_;intro w1 hw1;simp;refine hw1 _ ?_;rw[hcb];simp[hw]
 intro s3' hk3 s9;simp at hk3;generalize hg:Gm (Kf v a) (-(Kf v b))=g;have hg1:0<g:=by rw[<-hg];exact Jax (by omega)
 have hg2:g<=1000000000:=by rw[<-hg];exact Jdc (by omega) (by omega)
 refine Jq [3,4,6,8,9] (λs=>s 10 = .int .i64 (g:Nat)) ?_ ?_
 ·have hpn:((Kf v a).toNat:Int)=Kf v a:=by omega
  have hqn:((-(Kf v b)).toNat:Int) = -(Kf v b):=by omega
  have hk:=Jnf (Kf v a).toNat (-(Kf v b)).toNat (by omega) (by omega);rw[hpn,hqn,show Nat.gcd (Kf v a).toNat (-(Kf v b)).toNat=Gm (Kf v a) (-(Kf v b))from rfl,hg]at hk;simp[jn3,s9,hk3,s8];refine Je hk (by simp) ?_;rintro r rfl;simp;refine Je (Jb1 (g:Int) 1) (by simp) ?_;rintro r rfl;have:(if (g:Int)>1 then(g:Int)else 1)=g:=by split <;>omega
  rw[this];simp
 intro s4' hk4 s10;simp at hk4;have y3:s4' 3 = .ptr n 0 0:=by rw[hk4.1,hk3.2.1,hk2.2.1,s3]
 have y4:s4' 4 = .ptr (n+1) 0 0:=by rw[hk4.2.1,hk3.2.2.1,hk2.2.2.1,s4]
 have y6:s4' 6 = .ptr (n+2) 0 0:=by rw[hk4.2.2.1,hk3.2.2.2.1,hk2.2.2.2,s6]
 have y8:s4' 8 = .int .i64 (Kf v a):=by rw[hk4.2.2.2.1,hk3.2.2.2.2,s8]
 have y9:s4' 9 = .int .i64 (-(Kf v b)):=by rw[hk4.2.2.2.2,s9]
 have hja:Gf v a b=Qn a ((-(Kf v b)).tdiv g) b ((Kf v a).tdiv g):=by unfold Gf;rw[hg]
 rw[hja]at hK;generalize hP:Kf v a=P at *;generalize hQ : -(Kf v b)=Qq at *;refine Jn (Jnr (a:=a) (va:=va) (ma:=ma) (q:=Qq) (g:=g) ga (by omega) (by omega) y3 y9 s10 e3 (A1.keep (by omega) kp1) ?_);intro s5 h5 n5 k11 q11 hk5 hn5 hf5 s12 s11 L5;simp at hk5;rw[Wd];have hf50:∀id,id<n->h5 id=h id:=λid hid=>by rw[hf5 id (by omega),fr id hid]
 have kp5:Ko h h5 n:=Ko.of hf50;refine Jn (Jp8 (b:=b) (vb:=vb) (mb:=mb) (N:=N) (m:=m) (p:=P) (g:=g) (lo:=n+3) (by omega) (by omega) (by rw[hk5.2.1,y4]) (by rw[hk5.2.2.2.1,y8]) (by rw[hk5.2.2.2.2.2,s10]) s11 (by rw[hf5 _ (by omega),e4]) L5 (B1.keep (by omega) kp5) ?_);intro s6' h6 n6 k13 q13 hk6 hn6 hf6 s14 s13 L6;simp at hk6;rw[Wd];have hf60:∀id,id<n->h6 id=h id:=λid hid=>by rw[hf6 id (by omega),hf50 id hid]
 have kp6:Ko h h6 n:=Ko.of hf60;have z3:h6 n=some ⟨true,3,[[.int .i64 a.l.Const,va,ma]]⟩:=by rw[hf6 _ (by omega),hf5 _ (by omega),e3]
 have z4:h6 (n+1)=some ⟨true,3,[[.int .i64 b.l.Const,vb,mb]]⟩:=by rw[hf6 _ (by omega),hf5 _ (by omega),e4]
 have z6:h6 (n+2)=some ⟨true,3,[[.int .i64 0,.nil 1,.nil 1]]⟩:=by rw[hf6 _ (by omega),hf5 _ (by omega),e6]
 have w1:=Cn (p:=P) (g:=(g:Int)) (by omega) (by omega) (by omega);have w2:=Cn (p:=Qq) (g:=(g:Int)) (by omega) (by omega) (by omega);have v1:IntKind.i64.wrap (P.tdiv g)=P.tdiv g:=Km (by omega);have v2:IntKind.i64.wrap (Qq.tdiv g)=Qq.tdiv g:=Km (by omega);have hgn:¬g=0:=by omega
 have hml:b.mult.length=a.mult.length:=by rw[ga.len,gb.len]
 have hml':(b.mult++[b.scale]).length=(a.mult++[a.scale]).length:=by simp[hml]
 have hm20:(a.mult++[a.scale]).length<=100:=by simp[ga.len];omega
 have hb1:=(A2.keep (n':=n6) (by omega) kp6).bw;have hb2:=(B2.keep (n':=n6) (by omega) kp6).bw;generalize hSC:Cb (Qq.tdiv g) (a.mult++[a.scale]) (P.tdiv g) (b.mult++[b.scale])=SC at *;generalize hOK:(Yx (Qq.tdiv g) (a.mult++[a.scale]) (P.tdiv g) (b.mult++[b.scale])).all (·.2)=OK at *;generalize hT1:K9 (Jr 0 a.l.Coeffs.length) (Qq.tdiv g) a.l=T1 at *;generalize hT2:K9 (T1.getD Jj) (P.tdiv g) b.l=T2 at *;have x6:s6' 6 = .ptr (n+2) 0 0:=by rw[hk6.2.2.1,hk5.2.2.1,y6]
 have x12:s6' 12 = .bool T1.isSome:=by rw[hk6.2.2.2.2.2.2,s12]
 refine Xu [6,12,13,14] (λs h' m=>m=n6+1/\s 15 = .ref n6 0 SC.length/\s 16 = .bool OK/\h' n6=some ⟨false,1,Ji SC⟩/\∀id,id<n6->h' id=h6 id) ?_ ?_
 ·simp[jn6,hk6,hk5,y3,y4,y8,y9,s10,z3,z4,hgn,v1,v2];refine Jx (J97 (a.mult++[a.scale]) (b.mult++[b.scale]) (Qq.tdiv g) (P.tdiv g) hml' hm20) (by simp only[U5,hb1,hb2];simp[bw]) ?_;rintro r rfl;rw[hSC,hOK];simp;intro id hid;have:¬id=n6:=by omega
  simp[this]
 rintro s7 h7 n7 hk7 ⟨rfl,s15,s16,e15,hf7⟩;simp at hk7;obtain⟨q1,q2,q3,q4,q5,q6,q7⟩:=L6;have u6:h7 (n+2)=some ⟨true,3,[[.int .i64 0,.nil 1,.nil 1]]⟩:=by rw[hf7 _ (by omega),z6]
 have u13:h7 k13=some ⟨true,2,[[.int .i64 (T2.getD Jj).Const,.ref q13 0 (T2.getD Jj).Coeffs.length]]⟩:=by rw[hf7 k13 q2,q6]
 have uq:h7 q13=some ⟨false,1,Ji (T2.getD Jj).Coeffs⟩:=by rw[hf7 q13 q4,q7]
 have hb:((T1.isSome&&T2.isSome)&&OK)=(Qn a (Qq.tdiv g) b (P.tdiv g)).isSome:=by
  cases T1 with
  |none=>rw[Jdx hT1];rfl
  |some l1=>
   simp only[Option.getD_some]at hT2
   cases T2 with
   |none=>rw[Jee hT1 hT2];rfl
   |some l2=>
    rw[J8c hT1 hT2];rw[J2y hml,all_append]at hOK;rw[<-hOK];cases h1:(Yx (Qq.tdiv g) a.mult (P.tdiv g) b.mult).all (·.2) <;>cases h2:(Wv (Qq.tdiv g) a.scale (P.tdiv g) b.scale).2 <;>simp[h2]
 have key:∀h',(∀id,id≠n+2->h' id=h7 id)->h' (n+2)=some ⟨true,3,[[.int .i64 (T2.getD Jj).Const,.ref q13 0 (T2.getD Jj).Coeffs.length,.ref n6 0 SC.length]]⟩->K (.tup [.agg [.int .i64 (T2.getD Jj).Const,.ref q13 0 (T2.getD Jj).Coeffs.length,.ref n6 0 SC.length],.bool ((T1.isSome&&T2.isSome)&&OK)]) h' (n6+1):=by
  intro h' hf' _;rw[hb];have hfx:∀id,id<n->h' id=h id:=λid hid=>by rw[hf' id (by omega),hf7 id (by omega),hf60 id hid]
  have g1:h' q13=some ⟨false,1,Ji (T2.getD Jj).Coeffs⟩:=by rw[hf' q13 (by omega),uq]
  have g2:h' n6=some ⟨false,1,Ji SC⟩:=by rw[hf' n6 (by omega),e15]
  refine hK h' (n6+1) _ _ _ _ _ (by omega) hfx λd hd=>?_
  have hs:(Qn a (Qq.tdiv g) b (P.tdiv g)).isSome=true:=by rw[hd];rfl
  rw[<-hb]at hs;simp only[Bool.and_eq_true]at hs;obtain⟨l1,rfl⟩:=Option.isSome_iff_exists.1 hs.1.1;simp only[Option.getD_some]at hT2;obtain⟨l2,rfl⟩:=Option.isSome_iff_exists.1 hs.1.2;have hoka:=hs.2;have hJ:=J8c hT1 hT2
  have hSCv:SC=(Yx (Qq.tdiv g) a.mult (P.tdiv g) b.mult).map (·.1)++[(Wv (Qq.tdiv g) a.scale (P.tdiv g) b.scale).1]:=by rw[<-hSC];unfold Cb;rw[hOK,hoka,if_pos rfl,J2y hml];simp
  have hcond:((Wv (Qq.tdiv g) a.scale (P.tdiv g) b.scale).2&&(Yx (Qq.tdiv g) a.mult (P.tdiv g) b.mult).all (·.2))=true:=by rw[J2y hml,all_append,hoka]at hOK;simp at hOK;simpa[and_comm]using hOK
  rw[hcond,if_pos rfl,hd]at hJ;have hd':=Option.some.inj hJ;subst hd';exact⟨_,_,rfl,.inr (.inr ⟨q13,by omega,rfl,g1⟩),.inr ⟨n6,by omega,by rw[hSCv],by rw[g2,hSCv]⟩⟩
 have x13:s7 13 = .ptr k13 0 0:=by rw[hk7.2.2.1,s13]
 have y12:s7 12 = .bool T1.isSome:=by rw[hk7.2.1,x12]
 have y14:s7 14 = .bool T2.isSome:=by rw[hk7.2.2.2,s14]
 have y6:s7 6 = .ptr (n+2) 0 0:=by rw[hk7.1,x6]
 generalize T1.isSome=b1 at *;generalize T2.isSome=b2 at *;cases b1 <;>cases b2 <;>simp[jn7,x13,u13,s15,y12,y14,s16,y6,u6]
 all_goals
  exact key _ (λid hid=>Yk _ _ _ _ hid) (W4 _ _ _)
theorem J16{a b:Ke}{va ma vb mb:AV}{j k:Int}{h:J8}{n:Nat}{K:AV->J8->Nat->Prop}(hml:b.mult.length=a.mult.length)(hm20:a.mult.length<=20)(A1:Wg a.l.Coeffs va h n)(A2:Ve a.mult ma h n)(B1:Wg b.l.Coeffs vb h n)(B2:Ve b.mult mb h n)
 (hK:∀h' n' o r,n<=n'->(∀id,id<n->h' id=h id)->X0 o r h' n'->(∀d,Qn a j b k=some d->o=d)->K (.tup [.agg r,.bool (Qn a j b k).isSome]) h' n') :
 X9 prog 313 [.agg [.int .i64 a.l.Const,va,ma,.int .i64 a.scale],i64 j,.agg [.int .i64 b.l.Const,vb,mb,.int .i64 b.scale],i64 k] h n K:=by
 refine U8 func313 Jrf rfl (by simp[K4q]) ?_;unfold K4q;have c1:=A1.cell;have c2:=A2.cell;have c3:=B1.cell;have c4:=B2.cell
 refine Xu [] (λs h' m=>m=n+5/\(s 4 = .ptr n 0 0/\s 5 = .ptr (n+1) 0 0/\s 6 = .ptr (n+2) 0 0/\s 7 = .ptr (n+3) 0 0/\s 8 = .ptr (n+4) 0 0)/\(∀id,id<n->h' id=h id) /\
  h' n=some ⟨true,4,[[.int .i64 a.l.Const,va,ma,.int .i64 a.scale]]⟩/\h' (n+1)=some ⟨true,1,[[i64 j]]⟩/\h' (n+2)=some ⟨true,4,[[.int .i64 b.l.Const,vb,mb,.int .i64 b.scale]]⟩/\h' (n+3)=some ⟨true,1,[[i64 k]]⟩/\h' (n+4)=some ⟨true,4,[[.int .i64 0,.nil 1,.nil 1,.int .i64 0]]⟩) ?_ ?_
 ·simp[cb0,-Kb,c1,c2,c3,c4];simp[Kb];have ne:¬n=n+1+1+1+1/\¬n=n+1+1+1/\¬n=n+1+1/\¬n=n+1/\¬n+1=n+1+1+1+1/\¬n+1=n+1+1+1/\¬n+1=n+1+1/\¬n+2=n+1+1+1+1/\¬n+2=n+1+1+1/\¬n+3=n+1+1+1+1/\n+2=n+1+1/\n+3=n+1+1+1/\n+4=n+1+1+1+1:=by omega
  refine⟨λid hid=>?_,?_⟩
  ·have:¬id=n/\¬id=n+1/\¬id=n+1+1/\¬id=n+1+1+1/\¬id=n+1+1+1+1:=by omega
   simp[this]
  ·simp[ne]
 rintro s1 h1 n1 - ⟨rfl,⟨s4,s5,s6,s7,s8⟩,fr,e4,e5,e6,e7,e8⟩;have A1':Wg a.l.Coeffs va h1 (n+5):=A1.keep (by omega) (Ko.of fr);refine Jn (Jsi s4 s5 e4 e5 A1' ?_);intro s2 h2 n2 k10 q10 hk2 hn2 fr2 s11 s10 L2;simp at hk2;rw[Wd];have fr2':∀id,id<n->h2 id=h id:=λid hid=>by rw[fr2 id (by omega),fr id hid]
 have B1':Wg b.l.Coeffs vb h2 n2:=B1.keep (by omega) (Ko.of fr2');generalize hT1:K9 (Jr 0 a.l.Coeffs.length) j a.l=T1 at *;refine Jn (Jq8 (b:=b) (k:=k) (k6:=n+2) (k7:=n+3) (by rw[hk2.2.2.1,s6]) (by rw[hk2.2.2.2.1,s7]) s10 (by rw[fr2 _ (by omega),e6]) (by rw[fr2 _ (by omega),e7]) L2 B1' (by omega) ?_);intro s3 h3 n3 q hk3 hn3 fr3 s12 L3;simp at hk3;rw[Wd];have fr3':∀id,id<n->h3 id=h id:=λid hid=>by rw[fr3 id (by omega),fr2' id hid]
 have e8':h3 (n+4)=some ⟨true,4,[[.int .i64 0,.nil 1,.nil 1,.int .i64 0]]⟩:=by rw[fr3 _ (by omega),fr2 _ (by omega),e8]
 have bad:Qn a j b k=Option.none->K (.tup [.agg [.int .i64 0,.nil 1,.nil 1,.int .i64 0],.bool false]) h3 n3/\∀h',(∀id,id≠n+4->h' id=h3 id)->K (.tup [.agg [.int .i64 0,.nil 1,.nil 1,.int .i64 0],.bool false]) h' n3:=λhj=>by
  have key:∀h',(∀id,id<n->h' id=h id)->K (.tup [.agg [.int .i64 0,.nil 1,.nil 1,.int .i64 0],.bool false]) h' n3:=λh' hf=>by have:=hK h' n3 Kc4 _ (by omega) hf Jz6 (by rw[hj];simp);rw[hj]at this;exact this
  exact⟨key h3 fr3',λh' hf=>key h' λid hid=>by rw[hf id (by omega),fr3' id hid]⟩
 have x8:s3 8 = .ptr (n+4) 0 0:=by rw[hk3.2.2.2.2.1,hk2.2.2.2.2,s8]
 have x11:s3 11 = .bool T1.isSome:=by rw[hk3.2.2.2.2.2.2,s11]
 cases T1 with
 |none=>
  simp[R6,x11,x8,e8'];refine(bad (Jdx hT1)).2 _ ?_;intro id hid
  simp[hid]
 |some l1=>
  simp only[Option.getD_some]at s12 L3 L2;generalize hT2:K9 l1 k b.l=T2 at *
  cases T2 with
  |none=>
   simp[R6,x11,x8,e8',s12];refine(bad (Jee hT1 hT2)).2 _ ?_;intro id hid
   simp[hid]
  |some l2=>
   simp only[Option.getD_some]at L3;obtain⟨q1,q2,q3,q4,q5,q6,q7⟩:=L3;have y4:s3 4 = .ptr n 0 0:=by rw[hk3.1,hk2.1,s4]
   have y5:s3 5 = .ptr (n+1) 0 0:=by rw[hk3.2.1,hk2.2.1,s5]
   have y6:s3 6 = .ptr (n+2) 0 0:=by rw[hk3.2.2.1,hk2.2.2.1,s6]
   have y7:s3 7 = .ptr (n+3) 0 0:=by rw[hk3.2.2.2.1,hk2.2.2.2.1,s7]
   have y10:s3 10 = .ptr k10 0 0:=by rw[hk3.2.2.2.2.2.1,s10]
   have up:∀id,id<n+5->h3 id=h1 id:=λid hid=>by rw[fr3 id hid,fr2 id (by omega)]
   have u4:h3 n=some ⟨true,4,[[.int .i64 a.l.Const,va,ma,.int .i64 a.scale]]⟩:=by rw[up _ (by omega),e4]
   have u5:h3 (n+1)=some ⟨true,1,[[i64 j]]⟩:=by rw[up _ (by omega),e5]
   have u6:h3 (n+2)=some ⟨true,4,[[.int .i64 b.l.Const,vb,mb,.int .i64 b.scale]]⟩:=by rw[up _ (by omega),e6]
   have u7:h3 (n+3)=some ⟨true,1,[[i64 k]]⟩:=by rw[up _ (by omega),e7]
   have ne:¬n=n3/\¬n+1=n3/\¬n+2=n3/\¬n+3=n3/\¬n+4=n3/\¬q=n3/\¬k10=n3:=by omega
   simp[R6,x11,s12,cb4,cb5,cb6,y5,y7,y10,y4,y6,q6,u4,u6,ne];refine Jb6 (j:=j) (k:=k) (by simp[ne,u5]) (by simp[ne,u7]) ?_;simp[W5,cb7];refine Jod (n0:=n) (h0:=h) (a:=a) (b:=b) (va:=va) (ma:=ma) (vb:=vb) (mb:=mb) (j:=j) (k:=k) (k14:=n3) (l2:=l2) (q:=q) hml hm20 A2 B2 _ (by simp[y4]) (by simp[y6]) (by simp) (by simp) (by simp;rfl) ⟨by omega,by omega,by omega,by omega,?_,by simp[ne,u4],by simp[ne,u5],by simp[ne,u6],by simp[ne,u7],by simp[ne,e8'],by simp[ne,q7],.nil 1,by simp;rfl,.inl ⟨rfl,rfl⟩,by simp⟩ ?_
   ·intro id hid;have:¬id=n3:=by omega
    simp[this,fr3' id hid]
   intro s4' h4 n4 hk4 s16 hn4 S;obtain⟨S1,S2,Sq0,Sqm,S3,S4,S5,S6,S7,S8,Sq,vm,S9,S10,S11⟩:=S;simp at hk4;have z8:s4' 8 = .ptr (n+4) 0 0:=by rw[hk4.1];simp[x8]
   have hj:=J8c hT1 hT2;simp[cb9,hk4,x8,S8,S9,s16]
   have hx:∀id,id<n->upd h4 (n+4) (some ⟨true,4,[[.int .i64 l2.Const,.ref q 0 l2.Coeffs.length,vm,.int .i64 (Wv j a.scale k b.scale).1]]⟩) id=h id:=λid hid=>by
    have:¬id=n+4:=by omega
    simp[this,S3 id hid]
   have kp:Ko h4 (upd h4 (n+4) (some ⟨true,4,[[.int .i64 l2.Const,.ref q 0 l2.Coeffs.length,vm,.int .i64 (Wv j a.scale k b.scale).1]]⟩)) n4:=λid z rows hid e=>by
    have:¬id=n+4:=by rintro rfl;rw[S8]at e;simp at e
    simp[this,e]
   have res:=hK _ n4 ⟨l2,(Yx j a.mult k b.mult).map (·.1),(Wv j a.scale k b.scale).1⟩ _ (by omega) hx ⟨.ref q 0 l2.Coeffs.length,vm,rfl,(Wg.keep (.inr (.inr ⟨q,Sqm,rfl,Sq⟩)) (Nat.le_refl _) kp),S10.keep (Nat.le_refl _) kp⟩ ?_
   ·have hs:(Qn a j b k).isSome=((Wv j a.scale k b.scale).2&&(Yx j a.mult k b.mult).all (·.2)):=by
     rw[hj];split <;>simp_all
    rw[hs]at res;exact⟨S10.cell,res⟩
   ·intro d hd;rw[hj]at hd;split at hd
    ·exact Option.some.inj hd
    ·cases hd
def wo0:AC:=(.reg [Zz 4 4])
def wo1:AC:=(.reg [Zz 5 4])
def wa:AC:=(.reg [Zx 21 4 17 19,Zl 22 true 4 21,Zo 7 (.box [(.int .i64 0),(.nil 1),(.nil 1),(.int .i64 0)]),Zs 4 7 22])
def wb:AC:=(.reg [Zf 23 0 7,Zf 24 1 23,Zl 25 false 1 24,Zv 26 1,Zx 27 1 25 26,Zl 28 false 1 27,Zk 29 .eql 28 0])
def wc:AC:=(.reg [Zv 30 5,Zl 31 true 4 7,Zo 32 (.bslb 4 [.t 31]),Zo 33 (.appb 64 4 (.t 30) (.t 32)),Zv 5 33])
def wo2:AC:=(Zq [Zv 17 0,Zn 18 17,Zi 19 0] (.blk 0 (.loop (Zq [Zb 20 .lss 19 18] (.seq (Zw 20 0) (.seq (.blk 1 (.seq  wa (.seq  wb (.cond (.t 29)  wc .skip)))) (.reg [Zk 34 .add 19 1,Zv 19 34])))))))
def wd:AC:=(.reg [Zx 39 4 35 37,Zl 40 true 4 39,Zo 9 (.box [(.int .i64 0),(.nil 1),(.nil 1),(.int .i64 0)]),Zs 4 9 40])
def we:AC:=(.reg [Zf 41 0 9,Zf 42 1 41,Zl 43 false 1 42,Zv 44 1,Zx 45 1 43 44,Zl 46 false 1 45,Zv 10 46])
def wg:AC:=(.reg [Zx 53 4 49 51,Zl 54 true 4 53,Zo 12 (.box [(.int .i64 0),(.nil 1),(.nil 1),(.int .i64 0)]),Zs 4 12 54])
def wh:AC:=(.reg [Zf 55 0 12,Zf 56 1 55,Zl 57 false 1 56,Zv 58 1,Zx 59 1 57 58,Zl 60 false 1 59,Zo 61 (.un .neg (.t 60)),Zv 13 61])
def wi:AC:=(.reg [Zv 64 10,Zv 65 13,Zc 66 312 [.t 64,.t 65],Zv 14 66])
def wj:AC:=(.draw (.op (Zl 68 true 4 9) (.op (Zv 69 13) (.op (Zv 70 14) (.op (Zb 71 .quo 69 70) (.op (Zl 72 true 4 12) (.op (Zv 73 10) (.op (Zv 74 14) (.op (Zb 75 .quo 73 74) (.both (.op (Zc 76 313 [.t 68,.t 71,.t 72,.t 75]) (.op (Zv 67 76) (.op (Ze 77 67 0) (.op (Ze 78 67 1) (.op (Zo 15 (.box [(.int .i64 0),(.nil 1),(.nil 1),(.int .i64 0)])) (.hop (Zs 4 15 77) [] (.op (Zv 16 78) .fin))))))) (.op (Zo 15 (.box [(.int .i64 0),(.nil 1),(.nil 1),(.int .i64 0)])) (.op (Zc 76 313 [.t 68,.t 71,.t 72,.t 75]) (.op (Zv 67 76) (.op (Ze 77 67 0) (.op (Ze 78 67 1) (.hop (Zs 4 15 77) [] (.op (Zv 16 78) .fin)))))))))))))))))
def wl:AC:=(.reg [Zv 80 5,Zl 81 true 4 15,Zo 82 (.bslb 4 [.t 81]),Zo 83 (.appb 64 4 (.t 80) (.t 82)),Zv 5 83])
def win:AC:=(.blk 4 (.loop (Zq [Zb 52 .lss 51 50] (.seq (Zw 52 4) (.seq (.blk 5 (.seq  wg (.seq  wh (.seq (Zq [Zv 62 13,Zk 63 .leq 62 0] (.cond (.t 63) (.exit 5) .skip)) (.seq  wi (.seq wj (Zq [Zv 79 16] (.cond (.t 79)  wl .skip)))))))) (.reg [Zk 84 .add 51 1,Zv 51 84]))))))
def wo3:AC:=(Zq [Zv 35 0,Zn 36 35,Zi 37 0] (.blk 2 (.loop (Zq [Zb 38 .lss 37 36] (.seq (Zw 38 2) (.seq (.blk 3 (.seq  wd (.seq  we (.seq (Zq [Zv 47 10,Zk 48 .leq 47 0] (.cond (.t 48) (.exit 3) .skip)) (Zq [Zv 49 0,Zn 50 49,Zi 51 0] win))))) (.reg [Zk 85 .add 37 1,Zv 37 85])))))))
def wo4:AC:=(.reg [Zv 86 5,Zv 4 86])
def K5i:Jl:=⟨87,[.t 4],(.seq wo0 (.seq wo1 (.seq wo2 (.seq wo3 (.seq wo4 .ret)))))⟩
theorem Jmn:Gd true prog f281=some K5i:=by kernel_rfl
theorem X0.cells {d:Ke}{r:List AV}{h:J8}{n:Nat}(x:X0 d r h n):r.all Kb=true/\r.length=4:=by obtain⟨vl,vm,rfl,h1,h2⟩:=x;have c1:=h1.cell;have c2:=h2.cell;simp[-Kb,c1,c2];simp[Kb]
section
variable {ks:List Kt}{s:Jm}{h h':J8}{n:Nat}{Q:Xb}
theorem Jlv{a:AC}{ds:List Ke}{vl:AV}{i lo x y b:Nat}(ha:a=wa/\x=17/\y=19/\b=7\/a=wd/\x=35/\y=37/\b=9\/a=wg/\x=49/\y=51/\b=12)(L:K7 X0 4 lo ds vl h n)(hi:i<ds.length)(sx:s x=vl)(sy:s y = .int .i64 i)
 (hK:∀s' h' r,(∀j∈[0,1,5,17,18,19,35,36,37,49,50,51],s' j=s j)->(b=12->s' 9=s 9/\s' 10=s 10)->(∀id,id<n->h' id=h id)->s' b = .ptr n 0 0->h' n=some ⟨true,4,[r]⟩->X0 ds[i] r h' (n+1)->Jt prog ks .normal s' h' (n+1) Q):rC prog a ks s h n Q:=by
 rcases ha with ⟨rfl,rfl,rfl,rfl⟩|⟨rfl,rfl,rfl,rfl⟩|⟨rfl,rfl,rfl,rfl⟩
 all_goals
  first|simp[-Kb,wa,sx,sy] |simp[-Kb,wd,sx,sy] |simp[-Kb,wg,sx,sy]
  refine Dx L hi ?_;intro id rows r hid e hl hr hR;have hne:¬id=n:=by omega
  have fr:∀j,j<n->¬j=n:=by intro j _;omega
  have hR':=hR;obtain⟨v1,v2,rfl,g1,g2⟩:=hR;have c1:=g1.cell;have c2:=g2.cell;simp[-Kb,e,hl,hr,c1,c2];simp[Kb];refine hK _ _ [.int .i64 ds[i].l.Const,v1,v2,.int .i64 ds[i].scale] (by simp) (by simp) (λj hj=>by simp[fr j hj]) (by simp) (by simp) (hR'.keep (Nat.le_succ n) (Ko.of λj hj=>by simp[fr j hj]))
theorem Kcf{a:AC}{acc:List Ke}{d:Ke}{r:List AV}{v:AV}{q lo b:Nat}(ha:a=wc/\b=7\/a=wl/\b=15)(sb:s b = .ptr q 0 0)(s5:s 5=v)(eb:h q=some ⟨true,4,[r]⟩)(hqn:q<n)(hr:X0 d r h n)(B:K7 X0 4 lo acc v h n)(hlo:lo<=n)(hl:acc.length<=4000)
 (hK:∀s' h' n',(∀j∈[0,1,17,18,19,35,36,37,49,50,51,9,10],s' j=s j)->n<=n'->Ko h h' n->(∀id,id<n->(∀k,v ≠ .ref id 0 k)->h' id=h id)->(∀id k,s' 5 = .ref id 0 k->n<=id)->K7 X0 4 lo (acc++[d]) (s' 5) h' n'->Jt prog ks .normal s' h' n' Q):rC prog a ks s h n Q:=by
 have hR':=hr;obtain⟨v1,v2,rfl,g1,g2⟩:=hr;have c1:=g1.cell;have c2:=g2.cell;have fr:∀j,j<n->¬j=n:=by intro j _;omega
 have kp:Ko h (upd h n (some ⟨true,4,[[.int .i64 d.l.Const,v1,v2,.int .i64 d.scale]]⟩)) n:=Ko.of λj hj=>by simp[fr j hj]
 have B':=K7.keep (R:=X0) (h':=upd h n (some ⟨true,4,[[.int .i64 d.l.Const,v1,v2,.int .i64 d.scale]]⟩)) (n':=n+1) (λ_ _ _ _ _ _=>X0.keep) B (Nat.le_succ n) kp λid rows _ hid _ e=>by simp[fr id hid,e]
 rcases ha with ⟨rfl,rfl⟩|⟨rfl,rfl⟩
 all_goals
  first|simp[-Kb,wc,sb,s5,eb,c1,c2] |simp[-Kb,wl,sb,s5,eb,c1,c2]
  simp[Kb];refine Fp (R:=X0) (λ_ _ _ _ _ _=>X0.keep) B' (r:=[.int .i64 d.l.Const,v1,v2,.int .i64 d.scale]) (d:=d) (by simp[Is]) (hR'.keep (Nat.le_succ n) kp) (by omega) (by unfold Jd;omega) ?_;intro h' k1 k2 k3;simp;refine hK _ _ _ (by simp) (by omega) (kp.trans k1 (Nat.le_succ n)) (λid hid hv=>by rw[k2 id (by omega) hv];simp[fr id hid]) (by simp) (by simpa using k3)
theorem Jlq{a:AC}{d:Ke}{r:List AV}{q N m v b:Nat}{J:Int}(ha:a=wb/\b=7/\J=Kf v d\/a=we/\b=9/\J=Kf v d\/a=wh/\b=12/\J = -(Kf v d))(g:GD N m d)(hv:v<N)(sb:s b = .ptr q 0 0)(s1:s 1 = .int .i64 v)(eb:h q=some ⟨true,4,[r]⟩)(hr:X0 d r h n)
 (hK:∀s',(∀j∈[0,1,5,7,9,12,17,18,19,35,36,37,49,50,51],s' j=s j)->(b=7->s' 29 = .bool (Kf v d==0))->(b=9->s' 10 = .int .i64 (Kf v d))->(b=12->s' 13 = .int .i64 (-(Kf v d))/\s' 10=s 10)->Jt prog ks .normal s' h n Q):rC prog a ks s h n Q:=by
 obtain⟨v1,v2,rfl,g1,g2⟩:=hr;have hvl:v<d.l.Coeffs.length:=by rw[g.cl];exact hv
 have hc:d.l.Coeffs[v]=Kf v d:=by simp[Kf,hvl]
 have hw:IntKind.i64.wrap (0 - Kf v d) = -(Kf v d):=by have:=Oh.1 (g.coef hv);rw[Km (by omega)];omega
 simp at hw;rcases ha with ⟨rfl,rfl,rfl⟩|⟨rfl,rfl,rfl⟩|⟨rfl,rfl,rfl⟩
 all_goals
  first|simp[wb,sb,s1,eb] |simp[we,sb,s1,eb] |simp[wh,sb,s1,eb]
  refine F4 g1 hvl ?_;intro w1 hw1;simp;refine hw1 _ ?_;rw[hc];simp[hw];refine hK _ (by simp) (by simp[BEq.beq]) (by simp) (by simp)
end
section
variable {ks:List Kt}{s:Jm}{h h':J8}{n:Nat}{Q:Xb}
theorem K7.below {R:Ke->List AV->J8->Nat->Prop}{z b:Nat}{ds:List Ke}{v:AV}(x:K7 R z b ds v h n) {q:Nat}(hq:n<=q):∀k,v ≠ .ref q 0 k:=by
 rintro k rfl;rcases x with ⟨h1,_⟩|⟨id,rows,_,h1,h2,_⟩
 ·cases h1
 ·simp at h2;omega
theorem K7.from {R:Ke->List AV->J8->Nat->Prop}{z b:Nat}{ds:List Ke}{v:AV}(x:K7 R z b ds v h n):∀id k,v = .ref id 0 k->b<=id:=by
 rintro id k rfl;rcases x with ⟨h1,_⟩|⟨id',rows,h0,h1,h2,_⟩
 ·cases h1
 ·simp at h2;omega
theorem Jrl{ds:List Ke}{vl:AV}{N m v n0:Nat}{h0:J8}(hg:∀d∈ds,GD N m d)(hv:v<N)(hd:ds.length<=60)(hn0:n0<=n)(hf:∀id,id<n0->h id=h0 id)(L:K7 X0 4 0 ds vl h0 n0)(s0:s 0=vl)(s1:s 1 = .int .i64 v)(s5:s 5 = .nil 4)
 (hK:∀s' h' n',(∀j∈[0,1],s' j=s j)->n<=n'->(∀id,id<n0->h' id=h0 id)->K7 X0 4 n0 (ds.filter λd=>Kf v d==0) (s' 5) h' n'->Jt prog ks .normal s' h' n' Q):rC prog wo2 ks s h n Q:=by
 have keepL:∀{h' m'},n0<=m'->(∀id,id<n0->h' id=h0 id)->K7 X0 4 0 ds vl h' m':=λhm hh=>K7.keep (R:=X0) (λ_ _ _ _ _ _=>X0.keep) L hm (Ko.of hh) λid rows _ hid _ e=>by rw[hh id hid,e]
 generalize hT:(ds.filter λd=>Kf v d==0)=T at *;have hTl:T.length<=60:=by rw[<-hT];exact Nat.le_trans (List.length_filter_le _ _) hd
 simp[wo2,s0];refine Gq (keepL hn0 hf) (by unfold Jd;omega) ?_;simp;refine Ka [0,1,17,18] 19 ds.length (λi s h m'=>n<=m'/\(∀id,id<n0->h id=h0 id)/\∃acc,K7 X0 4 n0 acc (s 5) h m'/\acc++((ds.drop i).filter λd=>Kf v d==0)=T) (by unfold Jd;omega) (by simp) ⟨Nat.le_refl _,hf,[],.inl ⟨by simp[s5],rfl⟩,by simpa using hT⟩ ?_ ?_
 ·rintro i st h1 m1 R hi hgi hk s19 hw ⟨hm1,hf1,acc,B,hJ⟩ hR hret _;simp at hk;rw[List.drop_eq_getElem_cons hi,List.filter_cons]at hJ;have hal:=congrArg List.length hJ;simp only[length_append]at hal;refine Jq [0,1,5,17,18,19] (λs=>s 20 = .bool true) (by simp[hk,s19,hi]) ?_;intro Jv hk1 s20;simp at hk1;refine W3 s20 (Jn (Xd ?_));refine Jn (Jlv (.inl ⟨rfl,rfl,rfl,rfl⟩) (keepL (by omega) hf1) hi (by simp[hk1,hk]) (by simp[hk1,s19]) ?_);intro st2 h2 r hk2 _ hf2 s7 e7 hr;simp at hk2;rw[Wd];have B2:K7 X0 4 n0 acc (st 5) h2 (m1+1):=K7.keep (R:=X0) (λ_ _ _ _ _ _=>X0.keep) B (Nat.le_succ m1) (Ko.of hf2) λid rows _ hid _ e=>by rw[hf2 id hid,e]
  refine Jn (Jlq (.inl ⟨rfl,rfl,rfl⟩) (hg _ (getElem_mem hi)) hv s7 (by simp[hk2,hk1,hk,s1]) e7 hr ?_);intro Kq hk3 s29 _ _;simp at hk3;have s29:=s29 rfl;rw[Wd];cases hc:(Kf v ds[i]==0)
  ·rw[hc]at hJ s29;simp only[Bool.false_eq_true,if_false]at hJ;simp[s29,hk3,hk2,hk1,s19,hw];exact hR _ _ _ (by simp[hk3,hk2,hk1,hk]) (by simp) ⟨by omega,λid hid=>by rw[hf2 id (by omega),hf1 id hid],acc,by simpa[hk3,hk2,hk1]using B2,hJ⟩
  ·rw[hc]at hJ s29;simp only[if_true]at hJ;simp[s29];refine Kcf (acc:=acc) (d:=ds[i]) (v:=st 5) (q:=m1) (.inl ⟨rfl,rfl⟩) (by simp[hk3,s7]) (by simp[hk3,hk2,hk1]) e7 (Nat.lt_succ_self m1) hr B2 (by omega) (by omega) ?_;intro st4 h4 m4 hk4 hm4 kp4 hf4 hnew B4;simp at hk4;simp[hk4,hk3,hk2,hk1,s19,hw];refine hR _ _ _ (by simp[hk4,hk3,hk2,hk1,hk]) (by simp) ⟨by omega,λid hid=>?_,acc++[ds[i]],by simpa using B4,by simpa using hJ⟩;rw[hf4 id (by omega) λk e=>?_,hf2 id (by omega),hf1 id hid];have:=B.from id k e;omega
 ·rintro st h1 m1 R hk s19 ⟨hm1,hf1,acc,B,hJ⟩ hret hX;simp at hk;rw[List.drop_eq_nil_of_le (by omega)]at hJ;simp at hJ;subst hJ;refine Jq [0,1,5] (λs=>s 20 = .bool false) (by simp[hk,s19]) ?_;intro Jv hk1 s20;simp at hk1;refine Uv s20 ?_;refine hX _ _ _ _ ?_;simp;exact hK _ _ _ (by simp[hk1,hk]) hm1 hf1 (by simpa[hk1]using B)
end
end Go.Proofs.YtoclolkigjbcgaaGreat
