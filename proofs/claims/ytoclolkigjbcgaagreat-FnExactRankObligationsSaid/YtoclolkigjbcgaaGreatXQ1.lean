/- The models of both ways are one. -/
import Derived.Test.YtoclolkigjbcgaaGreatXC13
namespace Go.Proofs.YtoclolkigjbcgaaGreat
set_option maxRecDepth 40000
set_option maxHeartbeats 4000000
open Go Go.RowKit Go.Proofs
set_option linter.all false
theorem Jm3:∀ {l met:List Str},J43 met l=true→l.Nodup∧∀ x∈l,x∉met
 | [],_,_=>⟨List.nodup_nil,fun _ h=>by cases h⟩
 | s::l,met,h=>by
  simp only [J43,Bool.and_eq_true,Bool.not_eq_true'] at h
  obtain ⟨h1,h2⟩:=Jm3 h.2
  have h3:=Jbl.1 h.1
  refine ⟨List.nodup_cons.2 ⟨fun hs=>h2 s hs (by simp),h1⟩,?_⟩
  intro x hx
  rcases List.mem_cons.1 hx with rfl|hx
  ·exact h3
  ·exact fun hm=>h2 x hx (List.mem_append_left _ hm)
def Jn1 (n:Nat):List Str→Nat→SEnv
 | [],_=>[]
 | x::xs,i=>(x,J37 i n)::Jn1 n xs (i+1)
def Jwe (n:Nat):List Str→Nat→List DLin
 | [],_=>[]
 | _::xs,i=>J37 i n::Jwe n xs (i+1)
theorem Jfo {n:Nat} : ∀ {xs:List Str}{i:Nat},J1d (Jn1 n xs i)=xs
 | [],_=>rfl
 | x::xs,i=>by
  have:=Jfo (n:=n) (xs:=xs) (i:=i+1)
  unfold J1d at this ⊢
  simp [Jn1,this]
theorem Jiu {n:Nat} : ∀ {xs:List Str}{i:Nat}{e:Str×DLin},e∈Jn1 n xs i→∃ j,i≤j∧j<i+xs.length∧e.2=J37 j n
 | [],_,_,h=>by cases h
 | x::xs,i,e,h=>by
  rcases List.mem_cons.1 h with rfl|h
  ·exact ⟨i,Nat.le_refl _,by simp,rfl⟩
  ·obtain ⟨j,h1,h2,h3⟩:=Jiu h
   exact ⟨j,by omega,by simp;omega,h3⟩
theorem Jtb {n:Nat}(hn:n≤8) {xs:List Str}(h:xs.length≤n):Jn0 n (Jn1 n xs 0):=by
 intro e he
 obtain ⟨j,_,h2,h3⟩:=Jiu he
 rw [h3]
 exact ⟨Jac hn (by omega),by omega⟩
theorem Jqd {n:Nat}{xs:List Str}(h:xs.length≤2):Jwe n xs 0=(List.range xs.length).map fun i:Nat=>J37 i n:=by
 match xs,h with
 | [],_=>rfl
 | [_],_=>simp [Jwe,List.range_succ]
 | [_,_],_=>simp [Jwe,List.range_succ]
theorem Jem (E:SEnv) (x:Str) (l:DLin):J1d (E++[(x,l)])=J1d E++[x]:=by simp [J1d]
theorem Jih {n:Nat} : ∀ {xs:List Str}{a b:MS},a.E=b.E→a.nx=b.nx→a.pars=b.pars→a.args=b.args→xs.Nodup→(∀ x∈xs,x∉J1d a.E) →
 (xs.foldl (Jbw n) a).E=a.E++Jn1 n xs a.nx∧(xs.foldl (J9a n) b).E=a.E++Jn1 n xs a.nx∧(xs.foldl (Jbw n) a).nx=a.nx+xs.length∧(xs.foldl (Jbw n) a).pars=a.pars++Jwe n xs a.nx∧(xs.foldl (J9a n) b).pars=a.pars++Jwe n xs a.nx ∧
 (xs.foldl (Jbw n) a).args=a.args∧(xs.foldl (J9a n) b).args=a.args∧(xs.foldl (Jbw n) a).rows=a.rows++Je3 n xs a.nx∧(xs.foldl (J9a n) b).rows=b.rows
 | [],a,b,h1,h2,h3,h4,_,_=>by simp [Jn1,Jwe,Je3,h1,h3,h4]
 | x::xs,a,b,h1,h2,h3,h4,hd,hk=>by
  obtain ⟨hx,hd'⟩:=List.nodup_cons.1 hd
  have he:=Jc6 (l:=J37 a.nx n) (hk x List.mem_cons_self)
  simp only [List.foldl_cons]
  have ih:=Jih (n:=n) (xs:=xs) (a:=Jbw n a x) (b:=J9a n b x) (by show Jnl a.E x (J37 a.nx n)=b.E++[(x,J37 b.nx n)];rw [he,h1,h2]) (by simp [Jbw,J9a,h2]) (by simp [Jbw,J9a,h2,h3]) (by simp [Jbw,J9a,h4]) hd' (by
   intro y hy
   have:(Jbw n a x).E=a.E++[(x,J37 a.nx n)]:=he
   rw [this,Jem]
   intro hm
   rcases List.mem_append.1 hm with hm|hm
   ·exact hk y (List.mem_cons_of_mem _ hy) hm
   ·simp at hm;subst hm;exact hx hy)
  obtain ⟨g1,g2,g3,g4,g5,g6,g7,g8,g9⟩:=ih
  refine ⟨?_,?_,?_,?_,?_,?_,?_,?_,?_⟩
  ·rw [g1];simp [Jbw,he,Jn1]
  ·rw [g2];simp [Jbw,he,Jn1]
  ·rw [g3];simp [Jbw];omega
  ·rw [g4];simp [Jbw,Jwe]
  ·rw [g5];simp [Jbw,Jwe]
  ·rw [g6];rfl
  ·rw [g7];rfl
  ·rw [g8];simp [Jbw,Je3]
  ·rw [g9];rfl
theorem Jr5 {n j:Nat}(hn:n≤8) (hj:j<n):(Jbs (J37 j n) (-1)).getD J1g=J56 (J37 j n) 1:=by
 rw [Jga hn hj]
 have h1:J1q ⟨0,(List.replicate n 0).set j 1⟩ (((List.replicate n (0:Int)).set j 1).length:Nat)=true:=by
  unfold J1q
  simp only [Bool.and_eq_true,decide_eq_true_eq,List.all_eq_true]
  refine ⟨⟨⟨by simp [inR];omega,by simp⟩,by decide⟩,?_⟩
  intro y hy
  rcases List.mem_or_eq_of_mem_set hy with hy|rfl
  ·rw [(List.mem_replicate.1 hy).2];decide
  ·decide
 unfold Jbs J56
 simp only [h1]
 have h2:Jh2 0 (-1)=(-1,true):=by decide
 have h3:IntKind.i64.wrap (0 - 1) = -1:=by decide
 simp only [h2,h3]
 simp
theorem Jj9 {n:Nat}(hn:n≤8) {ps:List Str}(hps:ps.length≤n):∀ {qs:List DPattern}{a:MS}{F:SEnv},a.E=Jn1 n ps 0++F→(∀ q∈qs,q.Lst∈ps)→(Jar qs).Nodup→(∀ x∈Jar qs,x∉J1d a.E)→a.nx+J3p qs≤n→Jn0 n a.E →
 qs.foldl (Jd4 n) a=qs.foldl (J62 n) a∧J1d (qs.foldl (J62 n) a).E=J1d a.E++Jar qs∧(qs.foldl (J62 n) a).nx=a.nx+J3p qs∧Jn0 n (qs.foldl (J62 n) a).E
 | [],a,F,_,_,_,_,_,hE=>by simp [Jar,J3p,hE]
 | q::qs,a,F,hF,hl,hd,hk,hx,hE=>by
  have hq:q.Lst∈J1d (Jn1 n ps 0):=by rw [Jfo];exact hl q List.mem_cons_self
  obtain ⟨l,hm,hg⟩:=Jfb J1g hq
  obtain ⟨j,_,hj,hl2⟩:=Jiu hm
  simp only at hl2
  have hj':j<n:=by omega
  have hget:∀ d F,J38 d (Jn1 n ps 0++F) q.Lst=J37 j n:=fun d F=>by rw [hg,hl2]
  simp only [List.foldl_cons]
  cases hc:q.Cons
  ·have hpn:Jar (q::qs)=Jar qs:=by simp [Jar,hc]
   have hcn:J3p (q::qs)=J3p qs:=by simp [J3p,hc]
   rw [hpn] at hd hk ⊢
   rw [hcn] at hx ⊢
   have he:Jd4 n a q=J62 n a q:=by
    unfold Jd4 J62
    rw [hc,hF,hget,hget];rfl
   have hsE:(J62 n a q).E=a.E:=by unfold J62;rw [hc];rfl
   have hsx:(J62 n a q).nx=a.nx:=by unfold J62;rw [hc];rfl
   rw [he]
   have ih:=Jj9 hn hps (qs:=qs) (a:=J62 n a q) (F:=F) (by rw [hsE,hF]) (fun r hr=>hl r (List.mem_cons_of_mem _ hr)) hd (by rw [hsE];exact hk) (by rw [hsx];exact hx) (by rw [hsE];exact hE)
   rw [hsE,hsx] at ih
   exact ih
  ·have hpn:Jar (q::qs)=q.Head::q.Tail::Jar qs:=by simp [Jar,hc]
   have hcn:J3p (q::qs)=J3p qs+1:=by simp [J3p,hc]
   rw [hpn] at hd hk ⊢
   rw [hcn] at hx ⊢
   obtain ⟨d1,hd⟩:=List.nodup_cons.1 hd
   obtain ⟨d2,hd⟩:=List.nodup_cons.1 hd
   simp only [List.mem_cons,not_or] at d1
   have hEh:Jzs n a q=a.E++[(q.Head,J37 a.nx n)]:=Jc6 (hk _ List.mem_cons_self)
   have hLI:Jp9 n a q=J56 (J37 j n) 1:=by
    unfold Jp9
    rw [hEh,hF,List.append_assoc,hget]
    exact Jr5 hn hj'
   have hLS:Jku n a q=J56 (J37 j n) 1:=by unfold Jku;rw [hF,hget]
   have hE2:Jnl (a.E++[(q.Head,J37 a.nx n)]) q.Tail (J56 (J37 j n) 1)=a.E++[(q.Head,J37 a.nx n),(q.Tail,J56 (J37 j n) 1)]:=by
    rw [Jc6,List.append_assoc]
    ·rfl
    ·rw [Jem]
     intro hm
     rcases List.mem_append.1 hm with hm|hm
     ·exact hk q.Tail (by simp) hm
     ·simp at hm;exact d1.1 hm.symm
   have he:Jd4 n a q=J62 n a q:=by
    unfold Jd4 J62
    rw [hc,hLI,hLS,hEh,hE2];rfl
   have hsE:(J62 n a q).E=a.E++[(q.Head,J37 a.nx n),(q.Tail,J56 (J37 j n) 1)]:=by unfold J62;rw [hc,hLS];rfl
   have hsx:(J62 n a q).nx=a.nx+1:=by unfold J62;rw [hc];rfl
   have hsk:J1d (J62 n a q).E=J1d a.E++[q.Head,q.Tail]:=by rw [hsE];simp [J1d]
   rw [he]
   have ih:=Jj9 hn hps (qs:=qs) (a:=J62 n a q) (F:=F++[(q.Head,J37 a.nx n),(q.Tail,J56 (J37 j n) 1)]) (by rw [hsE,hF,List.append_assoc]) (fun r hr=>hl r (List.mem_cons_of_mem _ hr)) hd (by
    intro x hxm
    rw [hsk]
    intro hm
    rcases List.mem_append.1 hm with hm|hm
    ·exact hk x (by simp [hxm]) hm
    ·simp at hm
     rcases hm with rfl|rfl
     ·exact d1.2 hxm
     ·exact d2 hxm) (by rw [hsx];omega) (by
    rw [hsE]
    intro e he
    rcases List.mem_append.1 he with he|he
    ·exact hE e he
    ·simp at he
     rcases he with rfl|rfl
     ·exact ⟨Jac hn (by omega),by omega⟩
     ·exact ⟨Jac (i:=j) hn hj',by omega⟩)
   obtain ⟨g1,g2,g3,g4⟩:=ih
   refine ⟨g1,?_,?_,g4⟩
   ·rw [g2,hsk,List.append_assoc];rfl
   ·rw [g3,hsx];omega
def Jxg (K:List Str) (a:DArg):Prop:=(∀ s∈a.Heads,∀ t∈s.Terms,t.Name∈K)∧(a.Base≠[]→a.Base∈K)
def Jlg (p:DProgram) (K:List Str):List DCall→Prop
 | []=>True
 | c::cs=>(∀ a∈c.Args,Jxg K a)∧((J1o p.Functions c.Func).getD fn0).ListResult=J0n c.Bind∧c.Bind∉K∧Jlg p (K++[c.Bind]) cs
theorem Jjw {p:DProgram}{n:Nat}(hn:n≤8):∀ {cs:List DCall}{a:MS},Jlg p (J1d a.E) cs→a.nx+cs.length≤n→Jn0 n a.E →
 cs.foldl (Jgy p n) a=cs.foldl (J69 n) a∧J1d (cs.foldl (J69 n) a).E=J1d a.E++cs.map (·.Bind)∧Jn0 n (cs.foldl (J69 n) a).E
 | [],a,_,_,hE=>by simp [hE]
 | c::cs,a,h,hx,hE=>by
  obtain ⟨h1,h2,h3,h4⟩:=h
  simp only [List.length_cons] at hx
  simp only [List.foldl_cons]
  have hb:Jnl a.E c.Bind (J37 a.nx n)=a.E++[(c.Bind,J37 a.nx n)]:=Jc6 h3
  have ha:c.Args.map (Jhx a.E n)=c.Args.map (Jhe a.E n):=List.map_congr_left fun x hx=>Jx6 hE (h1 x hx)
  have he:Jgy p n a c=J69 n a c:=by
   unfold Jgy J69
   rw [hb,ha,h2]
  have hsE:(J69 n a c).E=a.E++[(c.Bind,J37 a.nx n)]:=rfl
  rw [he]
  have ih:=Jjw (p:=p) hn (cs:=cs) (a:=J69 n a c) (by rw [hsE,Jem];exact h4) (by show a.nx+1+_≤_;omega) (by
   rw [hsE]
   intro e he
   rcases List.mem_append.1 he with he|he
   ·exact hE e he
   ·simp at he;subst he;exact ⟨Jac hn (by omega),by omega⟩)
  obtain ⟨g1,g2,g3⟩:=ih
  refine ⟨g1,?_,g3⟩
  rw [g2,hsE,Jem];simp
theorem Jnq {a:DArg}{b:Bool}{K:List Str}(h:J6n a b K=true):Jxg K a:=by
 unfold J6n at h
 simp only [Bool.and_eq_true] at h
 have h2:=h.2
 rw [Jf9] at h2
 unfold Jpq at h2
 rw [List.all_eq_true] at h2
 have hs:∀ (l:List DSum) (s:DSum),s∈l→∀ t∈s.Terms,t.Name∈Jaf l:=by
  intro l
  induction l with
  | nil=>intro s hs;cases hs
  | cons x l ih=>
   intro s hs t ht
   simp only [Jaf]
   rcases List.mem_cons.1 hs with rfl|hs
   ·exact List.mem_append_left _ (List.mem_map.2 ⟨t,ht,rfl⟩)
   ·exact List.mem_append_right _ (ih s hs t ht)
 refine ⟨fun s hs' t ht=>J3d.1 (h2 _ ?_),fun hb=>J3d.1 (h2 _ ?_)⟩
 ·exact List.mem_append_left _ (hs _ s hs' t ht)
 ·refine List.mem_append_right _ ?_
  rw [if_neg hb];exact List.mem_cons_self
theorem Jha {K:List Str} : ∀ {l:List DArg}{m:List Str},J8c K l m=true→l.length=m.length→∀ a∈l,∃ b,J6n a b K=true
 | [],_,_,_,_,h=>by cases h
 | a::l,[],_,hl,_,_=>by simp at hl
 | a::l,s::m,h,hl,x,hx=>by
  simp only [J8c,Bool.and_eq_true] at h
  rcases List.mem_cons.1 hx with rfl|hx
  ·exact ⟨_,h.1⟩
  ·exact Jha h.2 (by simpa using hl) x hx
theorem Jnn {p:DProgram}{c:DCall}{K:List Str}(h:J9k p c K=true):(∀ a∈c.Args,∃ b,J6n a b K=true)∧((J1o p.Functions c.Func).getD fn0).ListResult=J0n c.Bind:=by
 unfold J9k at h
 simp only [Bool.and_eq_true,decide_eq_true_eq] at h
 obtain ⟨⟨⟨_,h1⟩,h2⟩,h3⟩:=h
 refine ⟨Jha h3 h1,?_⟩
 cases hr:((J1o p.Functions c.Func).getD fn0).ListResult
 ·rw [hr] at h2
  simp only [Bool.false_eq_true,if_false,J2o,Bool.and_eq_true,Bool.not_eq_true'] at h2
  exact h2.2.symm
 ·rw [hr] at h2
  simp only [if_true] at h2
  exact h2.symm
theorem Ja5 {p:DProgram}{r:DRule}{f:DFunction}(hf:J1o p.Functions r.Func=some f) {k:Nat}(hk:k≤r.Calls.length):J1m p r k=f.Params++Jar r.Patterns++(r.Calls.take k).map (·.Bind):=by
 unfold J1m
 rw [hf]
 rw [if_pos (by simp [inR];omega)];simp
theorem Jdd {p:DProgram}{r:DRule}{f:DFunction}(hf:J1o p.Functions r.Func=some f) (hd:(f.Params++Jar r.Patterns++r.Calls.map (·.Bind)).Nodup) :
 ∀ {m k:Nat},k+m=r.Calls.length→J2m p r k (r.Calls.drop k)=true→Jlg p (J1m p r k) (r.Calls.drop k)
 | 0,k,hm,_=>by rw [List.drop_eq_nil_of_le (by omega)];trivial
 | m+1,k,hm,h=>by
  have hk:k<r.Calls.length:=by omega
  have hsk:J1m p r (k+1:Nat)=J1m p r k++[(r.Calls[k]).Bind]:=by
   rw [Ja5 hf (by omega),Ja5 hf (by omega),List.take_succ_eq_append_getElem hk,List.map_append,←List.append_assoc];rfl
  rw [List.drop_eq_getElem_cons hk] at h ⊢
  simp only [J2m,Bool.and_eq_true] at h
  obtain ⟨g1,g2⟩:=Jnn h.1
  refine ⟨fun a ha => ?_,g2,?_,?_⟩
  ·obtain ⟨b,hb⟩:=g1 a ha
   exact Jnq hb
  ·rw [Ja5 hf (by omega)]
   intro hmem
   have hsub:(f.Params++Jar r.Patterns++(r.Calls.take k).map (·.Bind)++[(r.Calls[k]).Bind]).Nodup:=by
    refine hd.sublist ?_
    rw [List.append_assoc]
    refine List.Sublist.append_left ?_ _
    have:(r.Calls.take k).map (·.Bind)++[(r.Calls[k]).Bind]=(r.Calls.take (k+1)).map (·.Bind):=by rw [List.take_succ_eq_append_getElem hk,List.map_append];rfl
    rw [this]
    exact (List.take_sublist _ _).map _
   rw [List.nodup_append] at hsub
   exact hsub.2.2 _ hmem _ (by simp) rfl
  ·rw [←hsk]
   exact Jdd hf hd (m:=m) (by omega) h.2
theorem Jqi {ps:List Str} : ∀ {qs:List DPattern}{met:List Str},J45 ps met qs=true→(∀ q∈qs,q.Lst∈ps)∧(qs.map (·.Lst)).Nodup∧∀ q∈qs,q.Lst∉met
 | [],_,_=>by simp
 | q::qs,met,h=>by
  simp only [J45,Bool.and_eq_true,Bool.not_eq_true'] at h
  obtain ⟨⟨h1,h2⟩,h3⟩:=h
  obtain ⟨g1,g2,g3⟩:=Jqi h3
  unfold Jxp at h1
  simp only [Bool.and_eq_true] at h1
  have h1':=J3d.1 h1.1.1
  have h2':=Jbl.1 h2
  refine ⟨?_,?_,?_⟩
  ·intro x hx
   rcases List.mem_cons.1 hx with rfl|hx
   ·exact h1'
   ·exact g1 x hx
  ·rw [List.map_cons,List.nodup_cons]
   refine ⟨?_,g2⟩
   intro hm
   obtain ⟨y,hy,he⟩:=List.mem_map.1 hm
   exact g3 y hy (by rw [he];simp)
  ·intro x hx
   rcases List.mem_cons.1 hx with rfl|hx
   ·exact h2'
   ·exact fun hm=>g3 x hx (List.mem_append_left _ hm)
theorem K3m {p:DProgram}{name:Str}{f:DFunction}(hp:J2s p=true) (hf:J1o p.Functions name=some f):f.Params.length≤2∧f.Params.Nodup∧(∀ l∈f.Pre,J1q l f.Params.length=true)∧f.Pre.length≤2:=by
 unfold J2s at hp
 simp only [Bool.and_eq_true,Ja1,List.all_eq_true] at hp
 have:=hp.1.1.2.1 f (List.mem_of_find?_eq_some hf)
 unfold Jlq J8k at this
 simp only [Bool.and_eq_true,decide_eq_true_eq,List.all_eq_true] at this
 obtain ⟨⟨⟨⟨_,h2⟩,_,h3⟩,h4⟩,h5⟩:=this
 exact ⟨h2,(Jm3 h3).1,h5,h4⟩
structure RuleIn (p:DProgram) (r:DRule) (f:DFunction):Prop where
 par:f.Params.length≤2
 pre:∀ l∈f.Pre,J1q l f.Params.length=true
 npre:f.Pre.length≤2
 pats:∀ q∈r.Patterns,q.Lst∈f.Params
 npats:r.Patterns.length≤f.Params.length
 nd:(f.Params++Jar r.Patterns++r.Calls.map (·.Bind)).Nodup
 ncalls:r.Calls.length≤2
 nguards:r.Guards.length≤2
 guards:∀ g∈r.Guards,J4e (f.Params++Jar r.Patterns) g=true
 calls:J2m p r 0 r.Calls=true
 res:J6n r.Result f.ListResult (f.Params++Jar r.Patterns++r.Calls.map (·.Bind))=true
theorem Jb8 {p:DProgram}{r:DRule}(hp:J2s p=true) (hr:r∈p.Rules):∃ f,J1o p.Functions r.Func=some f∧RuleIn p r f:=by
 have hp':=hp
 unfold J2s at hp'
 simp only [Bool.and_eq_true,List.all_eq_true] at hp'
 have h:=hp'.2 r hr
 unfold J7u at h
 simp only [Bool.and_eq_true,decide_eq_true_eq] at h
 obtain ⟨⟨⟨⟨⟨⟨⟨g1,g2⟩,g3⟩,g4⟩,g5⟩,g6⟩,g7⟩,g8⟩:=h
 obtain ⟨f,hf⟩:=Option.isSome_iff_exists.1 g1
 rw [hf] at g2 g7
 simp only [Option.getD_some] at g2 g7
 obtain ⟨k1,k2,k3,k4⟩:=K3m hp hf
 obtain ⟨q1,q2,_⟩:=Jqi g2
 have hs0:=Ja5 (p:=p) (r:=r) hf (k:=0) (Nat.zero_le _)
 have hsa:=Ja5 (p:=p) (r:=r) hf (k:=r.Calls.length) (Nat.le_refl _)
 rw [List.take_length] at hsa
 simp only [List.take_zero,List.map_nil,List.append_nil] at hs0
 rw [hsa] at g7 g8
 rw [show ((0:Nat):Int)=0 from rfl] at hs0
 rw [hs0,List.all_eq_true] at g4
 refine ⟨f,hf,k1,k3,k4,q1,?_,(Jm3 g8).1,g5,g3,g4,g6,g7⟩
 have:=Jfw q2 (N:=f.Params) (by
  intro x hx
  obtain ⟨q,hq,rfl⟩:=List.mem_map.1 hx
  exact q1 q hq)
 simpa using this
theorem Jo8 (l:List DPattern):J3p l≤l.length:=List.length_filter_le _ _
theorem RuleIn.size {p:DProgram}{r:DRule}{f:DFunction}(R:RuleIn p r f):J19 r f≤6:=by
 have:=Jo8 r.Patterns
 have:=R.par;have:=R.npats;have:=R.ncalls
 unfold J19;omega
theorem Jvu {p:DProgram}{r:DRule}{f:DFunction}(hf:J1o p.Functions r.Func=some f) (R:RuleIn p r f):Jni p r f=some (J66 r f):=by
 have h6:=R.size
 have hn:J19 r f≤8:=by omega
 have hpn:f.Params.length≤J19 r f:=by unfold J19;omega
 have hd:=R.nd
 rw [List.append_assoc,List.nodup_append] at hd
 obtain ⟨hd1,hd2,hd3⟩:=hd
 rw [List.nodup_append] at hd2
 obtain ⟨hd4,hd5,hd6⟩:=hd2
 obtain ⟨a1,a2,a3,a4,a5,a6,a7,a8,a9⟩:=Jih (n:=J19 r f) (xs:=f.Params) (a:=⟨[],0,[],[],[]⟩) (b:=⟨[],0,Jec f (J19 r f),[],[]⟩) rfl rfl rfl rfl hd1 (by simp [J1d])
 simp only [List.nil_append,Nat.zero_add] at a1 a2 a3 a4 a5 a6 a7 a8 a9
 have hpre:K4j (st1 r f).pars (J19 r f) f.Pre=some (f.Pre.map (J4g (J19 r f))):=by
  refine Jmu fun l hl => ?_
  unfold st1
  rw [a4,Jqd R.par]
  exact Jl7 R.par hpn hn (R.pre l hl)
 unfold Jni J66
 rw [hpre]
 simp only
 have e1:(⟨(st1 r f).E,(st1 r f).nx,(st1 r f).rows++f.Pre.map (J4g (J19 r f)),(st1 r f).pars,(st1 r f).args⟩:MS)=Jcl (ss1 r f) f.Params.length:=by
  unfold st1 ss1 Jcl
  rw [a1,a2,a3,a4,a5,a6,a7,a8,a9];rfl
 have b0:(Jcl (ss1 r f) f.Params.length).E=Jn1 (J19 r f) f.Params 0++[]:=by rw [List.append_nil];exact a2
 have b1:J1d (Jcl (ss1 r f) f.Params.length).E=f.Params:=by rw [b0,List.append_nil,Jfo]
 have b2:Jn0 (J19 r f) (Jcl (ss1 r f) f.Params.length).E:=by rw [b0,List.append_nil];exact Jtb hn hpn
 obtain ⟨c1,c2,c3,c4⟩:=Jj9 hn hpn (qs:=r.Patterns) (a:=Jcl (ss1 r f) f.Params.length) b0 R.pats hd4 (by
  rw [b1];intro x hx hm;exact hd3 x hm x (List.mem_append_left _ hx) rfl) (by show f.Params.length+J3p r.Patterns≤J19 r f;unfold J19;omega) b2
 rw [b1] at c2
 have e3:st3 r f (f.Pre.map (J4g (J19 r f)))=ss3 r f:=by unfold st3 ss3;rw [e1,c1]
 have hg:r.Guards.map (Jh3 (ss3 r f).E (J19 r f))=r.Guards.map (Jel (ss3 r f).E (J19 r f)):=by
  refine List.map_congr_left fun g hg=>Jxb c4 fun t ht => ?_
  have:=R.guards g hg
  unfold J4e Jpq at this
  simp only [Bool.and_eq_true,List.all_eq_true] at this
  have:=J3d.1 (this.2 t.Name (List.mem_map.2 ⟨t,ht,rfl⟩))
  show t.Name∈J1d (ss3 r f).E
  unfold ss3;rw [c2];exact this
 have e4:J0y (ss3 r f) (r.Guards.map (Jh3 (ss3 r f).E (J19 r f)))=J0y (Jcl (ss3 r f) (f.Params.length+J3p r.Patterns)) (r.Guards.map (Jel (ss3 r f).E (J19 r f))):=by
  rw [hg]
  unfold J0y Jcl
  have:(ss3 r f).nx=f.Params.length+J3p r.Patterns:=c3
  rw [this]
 have hk0:J1d (J0y (Jcl (ss3 r f) (f.Params.length+J3p r.Patterns)) (r.Guards.map (Jel (ss3 r f).E (J19 r f)))).E=f.Params++Jar r.Patterns:=c2
 have hci:=Jdd (p:=p) (r:=r) hf R.nd (m:=r.Calls.length) (k:=0) (by omega) R.calls
 have hs0:=Ja5 (p:=p) (r:=r) hf (k:=0) (Nat.zero_le _)
 simp only [List.take_zero,List.map_nil,List.append_nil] at hs0
 rw [hs0,List.drop_zero] at hci
 obtain ⟨d1,d2,d3⟩:=Jjw (p:=p) hn (cs:=r.Calls) (a:=J0y (Jcl (ss3 r f) (f.Params.length+J3p r.Patterns)) (r.Guards.map (Jel (ss3 r f).E (J19 r f)))) (by rw [hk0];exact hci) (by
  show f.Params.length+J3p r.Patterns+r.Calls.length≤J19 r f;unfold J19;omega) c4
 have e5:st5 p r f (f.Pre.map (J4g (J19 r f)))=ss5 r f:=by unfold st5 ss5;rw [e3,e4,d1]
 rw [e5]
 have er:Jhx (ss5 r f).E (J19 r f) r.Result=Jhe (ss5 r f).E (J19 r f) r.Result:=by
  refine Jx6 d3 ?_
  have h1:=Jnq R.res
  have h2:J1d (ss5 r f).E=f.Params++Jar r.Patterns++r.Calls.map (·.Bind):=by unfold ss5;rw [d2,hk0]
  rw [←h2] at h1
  exact h1
 rw [er]
def a206:AFn:= ⟨34,[(.c 6 true 2)],(.seq (.reg [Zo 4 (.boxv (.t 1)),Zo 6 (.box [(.int .i64 0),(.nil 1)])]) (.seq (.reg [Zf 10 0 4,Zl 11 false 1 10,Zv 12 2,Zc 13 178 [.t 11,.t 12],Zo 7 (.box [(.int .i64 0),(.nil 1)]),⟨no,.st 2 (.t 7) (.t 13),no⟩]) (.seq (.seq (.reg [Zf 14 1 4,Zl 15 false 1 14,Zo 16 (.len false (.t 15)),Zo 17 (.mv (.k (.int .i64 0)))]) (.blk 0 (.loop (.seq (.reg [Zo 18 (.bin .lss (.t 17) (.t 16))]) (.seq (.cond (.t 18) .skip (.exit 0)) (.seq (.blk 1 (.seq (.reg [Zo 19 (.ixa 2 (.t 15) (.t 17)),Zl 20 true 2 19,Zo 9 (.box [(.int .i64 0),(.str [])]),⟨no,.st 2 (.t 9) (.t 20),no⟩]) (.reg [Zl 22 true 2 7,Zf 23 0 9,Zl 24 false 1 23,Zv 25 0,Zf 26 1 9,Zl 27 false 1 26,Zo 28 (.mget (.agg [(.int .i64 0),(.nil 1)]) (.t 25) (.t 27)),Zc 29 193 [.t 22,.t 24,.t 28],Zv 21 29,Zo 30 (.ext (.t 21) 0),Zo 31 (.ext (.t 21) 1),⟨no,.st 2 (.t 7) (.t 30),no⟩]))) (.reg [Zo 32 (.bin .add (.t 17) (.k (.int .i64 1))),Zv 17 32]))))))) (.seq (.reg [Zl 33 true 2 7,⟨no,.st 2 (.t 6) (.t 33),no⟩]) .ret))))⟩
theorem a206_ok:J06 Tryz.prog Tryz.f206=some a206:=by kernel_rfl
def a207:AFn:= ⟨36,[(.c 6 true 2)],(.seq (.reg [Zo 4 (.boxv (.t 1)),Zo 6 (.box [(.int .i64 0),(.nil 1)])]) (.seq (.seq (.reg [Zf 8 0 4,Zl 9 false 1 8,Zo 10 (.un .not (.t 9))]) (.cond (.t 10) (.seq (.reg [Zv 11 0,Zf 12 1 4,Zl 13 false 1 12,Zo 14 (.ixa 2 (.t 13) (.k (.int .i64 0))),Zl 15 true 2 14,Zv 16 2,Zc 17 206 [.t 11,.t 15,.t 16],⟨no,.st 2 (.t 6) (.t 17),no⟩]) .ret) .skip)) (.seq (.reg [Zf 18 1 4,Zl 19 false 1 18,Zo 20 (.len false (.t 19)),Zv 21 2,Zc 22 178 [.t 20,.t 21],Zo 7 (.box [(.int .i64 0),(.nil 1)]),⟨no,.st 2 (.t 7) (.t 22),no⟩]) (.seq (.seq (.reg [Zf 23 2 4,Zl 24 false 1 23,Zo 25 (.bin .neq (.t 24) (.k (.str [])))]) (.cond (.t 25) (.reg [Zl 27 true 2 7,Zv 28 0,Zf 29 2 4,Zl 30 false 1 29,Zo 31 (.mget (.agg [(.int .i64 0),(.nil 1)]) (.t 28) (.t 30)),Zc 32 193 [.t 27,(.k (.int .i64 1)),.t 31],Zv 26 32,Zo 33 (.ext (.t 26) 0),Zo 34 (.ext (.t 26) 1),⟨no,.st 2 (.t 7) (.t 33),no⟩]) .skip)) (.seq (.reg [Zl 35 true 2 7,⟨no,.st 2 (.t 6) (.t 35),no⟩]) .ret)))))⟩
theorem a207_ok:J06 Tryz.prog Tryz.f207=some a207:=by kernel_rfl
theorem Jfv {P:Program}{f:FuncId}{xs:List AV}{h:Heap}{n:Nat}{K:AV→Heap→Nat→Prop}
 (hA:J2c P f xs h n fun r h' n'=>(∀ id,id<n→h' id=h id)∧K r h' n'):J2c P f xs h n (hK h K):=by
 refine ⟨hA.1,fun base w0 w L F vs H hv => ?_⟩
 refine (hA.2 base w0 w L F vs H hv).mono ?_
 rintro e w' ⟨v,r,L',n',F',h',rfl,H',hx,hr,hh,hk⟩
 refine ⟨v,r,L',n',F',h',rfl,H',hx,hr,fun id B hB => ?_,hk⟩
 have hlt:id<n:=by
  cases hl:L id with
  | none=>rw [H.mod id hl] at hB;cases hB
  | some l=>exact H.lt id l hl
 rw [hh id hlt];exact hB
def Jjp (l:DLin) (q:Nat):AV := .agg [i64 l.Const,.ref q 0 l.Coeffs.length]
structure Ent where
 k:Str
 l:DLin
 q:Nat
def Ent.row (e:Ent):List AV:=[.str e.k,Jjp e.l e.q]
def Jmh (es:List Ent):SEnv:=es.map fun e=>(e.k,e.l)
def Jam:List Ent→Str→DLin→Nat→List Ent
 | [],k,l,q=>[⟨k,l,q⟩]
 | e::es,k,l,q=>if e.k=k then ⟨k,l,q⟩::es else e::Jam es k l q
theorem Jnf {k:Str}{l:DLin}{q:Nat} : ∀ {es:List Ent},Jmh (Jam es k l q)=Jnl (Jmh es) k l
 | []=>rfl
 | e::es=>by
  have ih:=Jnf (k:=k) (l:=l) (q:=q) (es:=es)
  simp only [Jam,Jmh,List.map_cons,Jnl] at ih ⊢
  split
  ·rfl
  ·rw [List.map_cons,ih]
theorem Jfk {k:Str}{l:DLin}{q:Nat} : ∀ {es:List Ent},Jll (es.map Ent.row) k (Jjp l q)=(Jam es k l q).map Ent.row
 | []=>rfl
 | e::es=>by
  have ih:=Jfk (k:=k) (l:=l) (q:=q) (es:=es)
  simp only [List.map_cons,Ent.row,Jll,Jam] at ih ⊢
  split
  ·rfl
  ·simp only [List.map_cons,Ent.row,List.cons.injEq,true_and];exact ih
theorem Jht {k:Str}{l:DLin}{q:Nat} : ∀ {es:List Ent}{e:Ent},e∈Jam es k l q→e∈es∨e=⟨k,l,q⟩
 | [],e,h=>by simp [Jam] at h;exact .inr h
 | a::es,e,h=>by
  simp only [Jam] at h
  split at h
  ·rcases List.mem_cons.1 h with h|h
   ·exact .inr h
   ·exact .inl (List.mem_cons_of_mem _ h)
  ·rcases List.mem_cons.1 h with rfl|h
   ·exact .inl List.mem_cons_self
   ·rcases Jht h with h|h
    ·exact .inl (List.mem_cons_of_mem _ h)
    ·exact .inr h
theorem Jcs {k:Str} : ∀ {es:List Ent},(J99 (es.map Ent.row) k=Option.none∧∀ d,J38 d (Jmh es) k=d)∨∃ e∈es,J99 (es.map Ent.row) k=some (Jjp e.l e.q)∧∀ d,J38 d (Jmh es) k=e.l
 | [] => .inl ⟨rfl,fun _=>rfl⟩
 | a::es=>by
  simp only [List.map_cons,Ent.row,J99,Jmh,J38,List.find?_cons]
  by_cases h:a.k=k
  ·exact .inr ⟨a,List.mem_cons_self,by rw [if_pos h],fun d=>by simp [h]⟩
  ·rw [if_neg h]
   have hb:(a.k==k)=false:=by simpa using h
   rcases Jcs (k:=k) (es:=es) with ⟨h1,h2⟩|⟨e,he,h1,h2⟩
   ·exact .inl ⟨h1,fun d=>by rw [hb];exact h2 d⟩
   ·exact .inr ⟨e,List.mem_cons_of_mem _ he,h1,fun d=>by rw [hb];exact h2 d⟩
def Jck (d:Nat) (E:SEnv) (h:Heap) (n:Nat):Prop:=∃ es:List Ent,Jmh es=E∧h d=some ⟨true,0,es.map Ent.row⟩∧∀ e∈es,e.q<n∧h e.q=some ⟨false,1,J0m e.l.Coeffs⟩
theorem Jck.keep {d:Nat}{E:SEnv}{h h':Heap}{n n':Nat}(M:Jck d E h n) (hd:d<n) (hn:n≤n') (hh:∀ id,id<n→h' id=h id):Jck d E h' n':=by
 obtain ⟨es,h1,h2,h3⟩:=M
 exact ⟨es,h1,by rw [hh d hd,h2],fun e he=>⟨by have:=(h3 e he).1;omega,by rw [hh _ (h3 e he).1];exact (h3 e he).2⟩⟩
theorem Jck.get {d:Nat}{E:SEnv}{h:Heap}{n:Nat}(M:Jck d E h n) (x:Str):∃ rows w,h d=some ⟨true,0,rows⟩∧(J99 rows x).getD (.agg [.int .i64 0,.nil 1]) = .agg [.int .i64 (J38 J1g E x).Const,w]∧bw w h=some (.sl 1 (J0m (J38 J1g E x).Coeffs)):=by
 obtain ⟨es,rfl,h2,h3⟩:=M
 refine ⟨es.map Ent.row,?_⟩
 rcases Jcs (k:=x) (es:=es) with ⟨g1,g2⟩|⟨e,he,g1,g2⟩
 ·exact ⟨.nil 1,h2,by rw [g1,g2];rfl,by rw [g2];rfl⟩
 ·refine ⟨.ref e.q 0 e.l.Coeffs.length,h2,by rw [g1,g2];rfl,?_⟩
  rw [g2]
  simp [bw,(h3 e he).2]
theorem Jck.get2 {d:Nat}{E:SEnv}{h:Heap}{n:Nat}(M:Jck d E h n) (x:Str):∃ rows w,h d=some ⟨true,0,rows⟩∧(J99 rows x).getD (.agg [.int .i64 0,.nil 1]) = .agg [.int .i64 (J38 J1g E x).Const,w] ∧
 ((w = .nil 1∧(J38 J1g E x).Coeffs=[])∨∃ q,q<n∧w = .ref q 0 (J38 J1g E x).Coeffs.length∧h q=some ⟨false,1,J0m (J38 J1g E x).Coeffs⟩):=by
 obtain ⟨es,rfl,h2,h3⟩:=M
 refine ⟨es.map Ent.row,?_⟩
 rcases Jcs (k:=x) (es:=es) with ⟨g1,g2⟩|⟨e,he,g1,g2⟩
 ·exact ⟨.nil 1,h2,by rw [g1,g2];rfl,.inl ⟨rfl,by rw [g2];rfl⟩⟩
 ·refine ⟨.ref e.q 0 e.l.Coeffs.length,h2,by rw [g1,g2];rfl,.inr ⟨e.q,(h3 e he).1,by rw [g2],by rw [g2];exact (h3 e he).2⟩⟩
theorem Jdq {d:Nat}{E:SEnv}{h:Heap}{n N:Nat}{s:DSum}(hs:s.Terms.length≤1048576) (M:Jck d E h n) (hd:d<n) {K:AV→Heap→Nat→Prop}
 (hK:∀ q h' n',n≤q→q<n'→(∀ id,id<n→h' id=h id)→h' q=some ⟨false,1,J0m (Jh3 E N s).Coeffs⟩→K (Jjp (Jh3 E N s) q) h' n') :
 J2c Tryz.prog 206 [.mp d,.agg (J1j s),i64 N] h n K:=by
 refine J17 Tryz.func206 a206_ok rfl (by simp [a206]) ?_
 have z0:¬n=n+1:=by omega
 have z1:¬n+1=n:=by omega
 have z2:¬n=n+1+1:=by omega
 have z3:¬n=n+1+1+1:=by omega
 have z4:¬n+1=n+1+1:=by omega
 have z5:¬n+1=n+1+1+1:=by omega
 have z6:¬n+1+1=n:=by omega
 have z7:¬n+1+1+1=n:=by omega
 simp [a206,J1j]
 first|refine J01 (J27 s.Const N) (by first|simp;done|rfl) ?_|refine J02 (J27 s.Const N) (by first|simp;done|rfl) ?_
 rintro r rfl
 simp [J08,J1j,z0,z1,z2,z3,z4,z5,z6,z7]
 intro _
 unfold Jh3 at hK
 generalize hT:s.Terms.foldl (fun o t=>J8m o t.Coeff (J38 J1g E t.Name)) (J09 s.Const N)=T at hK
 refine J0l [0,2,4,6,7,15,16] 17 s.Terms.length (fun i st h' m=>n+3<m∧(∀ id,id<n→h' id=h id)∧h' n=some ⟨true,2,[[.int .i64 s.Const,.sl 2 (s.Terms.map J16)]]⟩∧h' (n+1)=some ⟨true,2,[[.int .i64 0,.nil 1]]⟩ ∧
  ∃ (o:DLin) (q:Nat),h' (n+3)=some ⟨true,2,[[.int .i64 o.Const,.ref q 0 o.Coeffs.length]]⟩∧h' q=some ⟨false,1,J0m o.Coeffs⟩∧(q=n+2∨n+3<q)∧q<m∧(s.Terms.drop i).foldl (fun o t=>J8m o t.Coeff (J38 J1g E t.Name)) o=T) (by unfold LIM;omega) (by simp) ?_ ?_ ?_
 ·refine ⟨by omega,?_,by simp [z0,z1,z2,z3,z4,z5,z6,z7],by simp [z0,z1,z2,z3,z4,z5,z6,z7],J09 s.Const N,n+2,by simp [z0,z1,z2,z3,z4,z5,z6,z7],by simp,.inl rfl,by omega,hT⟩
  intro id hid
  have y0:¬id=n:=by omega
  have y1:¬id=n+1:=by omega
  have y2:¬id=n+1+1:=by omega
  have y3:¬id=n+1+1+1:=by omega
  have y4:¬id=n+2:=by omega
  have y5:¬id=n+3:=by omega
  simp [y0,y1,y2,y3,y4,y5]
 ·rintro i st h' m R hi hg hk s17 hw ⟨hm,hfr,e0,e1,o,q,eb,eq,hq,hqm,hJ⟩ hR _ _
  simp at hk
  rw [List.drop_eq_getElem_cons hi,List.foldl_cons] at hJ
  refine J0i [0,2,4,6,7,15,16,17] (fun s=>s 18 = .bool true) (by simp [hk,s17,hi]) ?_
  intro st1 hk1 s18
  simp at hk1
  refine J3x s18 (J0b (J1h ?_))
  refine J1n [0,2,4,6,7,15,16,17] (fun st2 h2 m2=>m2=m+1∧st2 9 = .ptr m 0 0∧h2 m=some ⟨true,2,[J16 s.Terms[i]]⟩∧∀ id,id<m→h2 id=h' id) ?_ ?_
  ·simp [hk1,hk,s17,hi,J16]
   intro id hid
   have:¬id=m:=by omega
   simp [this]
  rintro st2 h2 m2 hk2 ⟨rfl,s9,em,hfr2⟩
  simp at hk2
  have M2:Jck d E h2 (m+1):=M.keep hd (by omega) fun id hid=>by rw [hfr2 id (by omega),hfr id hid]
  obtain ⟨rows,w,hdr,hv,hbw⟩:=M2.get (s.Terms[i]).Name
  have eb2:=hfr2 (n+3) (by omega)
  have eq2:=hfr2 q (by omega)
  rw [eb] at eb2
  rw [eq] at eq2
  simp [hk2,hk1,hk,s17,s9,em,eb2,J16,hdr,hv]
  first|refine J01 (J22 o (s.Terms[i]'hi).Coeff (J38 J1g E (s.Terms[i]'hi).Name)) (by first|simp [J05,eq2,hbw];done|rfl) ?_|refine J02 (J22 o (s.Terms[i]'hi).Coeff (J38 J1g E (s.Terms[i]'hi).Name)) (by first|simp [J05,eq2,hbw];done|rfl) ?_
  rintro r rfl
  rw [J0u]
  have hadd:(J0j o (s.Terms[i]).Coeff (J38 J1g E (s.Terms[i]).Name)).getD J1g=J8m o (s.Terms[i]).Coeff (J38 J1g E (s.Terms[i]).Name):=rfl
  rw [hadd]
  generalize J8m o (s.Terms[i]).Coeff (J38 J1g E (s.Terms[i]).Name)=o' at *
  have b1:¬n+3=m+1:=by omega
  have b2:¬m+1=n+3:=by omega
  have b3:¬n=m+1:=by omega
  have b4:¬n+1=m+1:=by omega
  have b5:¬n+1+1=m:=by omega
  have b6:¬m=n+1+1:=by omega
  have b7:¬m=n+2:=by omega
  have b8:¬n+2=m:=by omega
  simp [hk2,hk1,hk,s17,hw,J08,eb2,b1,b2,b5,b6]
  refine hR _ _ _ (by simp [hk2,hk1,hk]) (by simp) ⟨by omega,?_,?_,?_,o',m+1,by simp,by simp [b2,b6,b7],.inr (by omega),by omega,hJ⟩
  ·intro id hid
   have y0:¬id=n+3:=by omega
   have y1:¬id=m+1:=by omega
   simp [y0,y1,hfr2 id (by omega),hfr id hid]
  ·simp [b3,hfr2 n (by omega),e0,z3]
  ·have:¬n+1=n+3:=by omega
   simp [b4,hfr2 (n+1) (by omega),e1]
   try omega
 ·rintro st h' m R hk s17 ⟨hm,hfr,e0,e1,o,q,eb,eq,hq,hqm,hJ⟩ hret hX
  simp at hk
  rw [List.drop_eq_nil_of_le (by omega)] at hJ
  simp only [List.foldl_nil] at hJ
  subst hJ
  refine J0i [6,7] (fun s=>s 18 = .bool false) (by simp [hk,s17]) ?_
  intro st1 hk1 s18
  simp at hk1
  refine J3s s18 ?_
  refine hX _ _ _ _ ?_
  have c1:¬q=n+1:=by omega
  simp [hk1,hk,eb,e1]
  refine hK q _ _ (by omega) hqm ?_ (by simp [c1,eq])
  intro id hid
  have y0:¬id=n+1:=by omega
  simp [y0,hfr id hid]
theorem Jdy {d:Nat}{E:SEnv}{h:Heap}{n N:Nat}{a:DArg}(hs:∀ s∈a.Heads,s.Terms.length≤1048576) (hne:a.Lst=false→0<a.Heads.length) (M:Jck d E h n) (hd:d<n) {K:AV→Heap→Nat→Prop}
 (hK:∀ q h' n',n≤q→q<n'→(∀ id,id<n→h' id=h id)→h' q=some ⟨false,1,J0m (Jhx E N a).Coeffs⟩→K (Jjp (Jhx E N a) q) h' n') :
 J2c Tryz.prog 207 [.mp d,.agg (J15 a),i64 N] h n K:=by
 refine J17 Tryz.func207 a207_ok rfl (by simp [a207]) ?_
 have z0:¬n=n+1:=by omega
 have z1:¬n+1=n:=by omega
 have z2:¬n=n+1+1:=by omega
 have z3:¬n=n+1+1+1:=by omega
 have z4:¬n+1=n+1+1:=by omega
 have z5:¬n+1=n+1+1+1:=by omega
 have z6:¬n+1+1=n:=by omega
 have z7:¬n+1+1+1=n:=by omega
 unfold Jhx at hK
 have M2:Jck d E (upd (upd h n (some ⟨true,3,[J15 a]⟩)) (n+1) (some ⟨true,2,[[.int .i64 0,.nil 1]]⟩)) (n+2):=M.keep hd (by omega) fun id hid=>by
  have y0:¬id=n:=by omega
  have y1:¬id=n+1:=by omega
  simp [y0,y1]
 cases hL:a.Lst
 ·rw [hL] at hK
  have hz:=hne hL
  obtain ⟨s,l,hsl⟩:∃ s l,a.Heads=s::l:=by
   cases hh:a.Heads with
   | nil=>rw [hh] at hz;cases hz
   | cons s l=>exact ⟨s,l,rfl⟩
  have hs0:=hs s (by rw [hsl];exact List.mem_cons_self)
  simp [hsl] at hK
  simp [a207,J15,hL,hsl,z0,z1]
  refine Jdq (E:=E) hs0 (by simpa [J15,hL,hsl] using M2) (by omega) ?_
  intro q h' n' hq hq' hfr hqb
  have f1:=hfr (n+1) (by omega)
  simp at f1
  simp [Jjp,f1]
  have y2:¬q=n+1:=by omega
  refine hK q _ _ (by omega) hq' ?_ (by simp [y2,hqb])
  intro id hid
  have y0:¬id=n:=by omega
  have y1:¬id=n+1:=by omega
  simp [y0,y1,hfr id (by omega)]
 ·rw [hL] at hK
  simp at hK
  simp [a207,J15,hL,z0,z1]
  intro _
  first|refine J01 (J27 a.Heads.length N) (by first|simp;done|rfl) ?_|refine J02 (J27 a.Heads.length N) (by first|simp;done|rfl) ?_
  rintro r rfl
  obtain ⟨rows,w,hdr,hv,hw⟩:=M.get2 a.Base
  have d0:¬d=n:=by omega
  have d1:¬d=n+1:=by omega
  have d2:¬d=n+1+1:=by omega
  have d3:¬d=n+1+1+1:=by omega
  have d4:¬n+1=n+3:=by omega
  have d5:¬n+1+1=n+3:=by omega
  have fr:∀ id,id<n→¬id=n∧¬id=n+1∧¬id=n+1+1∧¬id=n+1+1+1∧¬id=n+2∧¬id=n+3∧¬id=n+1+1+1+1∧¬id=n+4:=fun id hid=>by omega
  simp [J08,z0,z1,z2,z3,z4,z5,z6,z7]
  constructor
  ·intro hb
   rw [if_neg hb] at hK
   simp [d0,d1,d2,d3,hdr,hv]
   unfold J8m at hK
   rcases hw with ⟨rfl,hc⟩|⟨q,hq,rfl,hqb⟩
   ·have hl:J38 J1g E a.Base=⟨(J38 J1g E a.Base).Const,[]⟩:=by rw [←hc]
    generalize (J38 J1g E a.Base).Const=cc at *
    rw [hl] at hK
    have en:J0m []=[]:=rfl
    first|refine J01 (J22 (J09 a.Heads.length N) 1 ⟨cc,[]⟩) (by first|simp [J05,J08,en,z0,z1,z2,z3,z4,z5,z6,z7];done|rfl) ?_|refine J02 (J22 (J09 a.Heads.length N) 1 ⟨cc,[]⟩) (by first|simp [J05,J08,en,z0,z1,z2,z3,z4,z5,z6,z7];done|rfl) ?_
    rintro r rfl
    rw [J0u]
    generalize (J0j (J09 a.Heads.length N) 1 ⟨cc,[]⟩).getD J1g=o' at *
    simp [J08,z0,z1,z2,z3,z4,z5,z6,z7]
    refine hK (n+4) _ _ (by omega) (by omega) (fun id hid=>by simp [fr id hid]) (by simp)
   ·obtain ⟨q0,q1,q2,q3,q4,q5,q6,q7⟩:=fr q hq
    first|refine J01 (J22 (J09 a.Heads.length N) 1 (J38 J1g E a.Base)) (by first|simp [J05,J08,z0,z1,z2,z3,z4,z5,z6,z7,hqb,q0,q1,q2,q3];done|rfl) ?_|refine J02 (J22 (J09 a.Heads.length N) 1 (J38 J1g E a.Base)) (by first|simp [J05,J08,z0,z1,z2,z3,z4,z5,z6,z7,hqb,q0,q1,q2,q3];done|rfl) ?_
    rintro r rfl
    rw [J0u]
    generalize (J0j (J09 a.Heads.length N) 1 (J38 J1g E a.Base)).getD J1g=o' at *
    simp [J08,z0,z1,z2,z3,z4,z5,z6,z7]
    refine hK (n+4) _ _ (by omega) (by omega) (fun id hid=>by simp [fr id hid]) (by simp)
  ·intro hb
   rw [if_pos hb] at hK
   refine hK (n+2) _ _ (by omega) (by omega) (fun id hid=>by simp [fr id hid]) (by simp)
def a230:AFn:= ⟨10,[.t 2],(.seq (.reg [Zo 2 (.mv (.k (.bool false)))]) (.seq (.seq (.reg [Zv 3 0]) (.blk 0 (.seq (.seq (.reg [Zo 5 (.bin .eql (.t 3) (.k (.str [102,117,110]))),Zv 4 5]) (.cond (.t 4) .skip (.seq (.reg [Zo 6 (.bin .eql (.t 3) (.k (.str [112,114,101]))),Zv 4 6]) (.cond (.t 4) .skip (.seq (.reg [Zo 7 (.bin .eql (.t 3) (.k (.str [114,117,108,101]))),Zv 4 7]) (.cond (.t 4) .skip (.seq (.reg [Zo 8 (.bin .eql (.t 3) (.k (.str [114,101,116,117,114,110]))),Zv 4 8]) (.cond (.t 4) .skip (.reg [Zo 9 (.bin .eql (.t 3) (.k (.str [110,105,108]))),Zv 4 9]))))))))) (.cond (.t 4) (.seq (.reg [Zo 2 (.mv (.k (.bool true)))]) .ret) .skip)))) (.seq (.reg [Zo 2 (.mv (.k (.bool false)))]) .ret)))⟩
theorem a230_ok:J06 Tryz.prog Tryz.f230=some a230:=by kernel_rfl
def a224:AFn:= ⟨18,[.t 4],(.seq (.reg [Zo 4 (.mv (.k (.bool false)))]) (.seq (.seq (.reg [Zo 5 (.mv (.k (.int .i64 0)))]) (.blk 0 (.loop (.seq (.seq (.reg [Zv 6 5,Zv 7 0,Zo 8 (.len false (.t 7)),Zo 9 (.bin .lss (.t 6) (.t 8))]) (.cond (.t 9) .skip (.exit 0))) (.seq (.blk 1 (.seq (.reg [Zv 12 0,Zv 13 5,Zo 14 (.ixa 1 (.t 12) (.t 13)),Zl 15 false 1 14,Zv 16 1,Zo 17 (.bin .eql (.t 15) (.t 16))]) (.cond (.t 17) (.seq (.reg [Zo 4 (.mv (.k (.bool true)))]) .ret) .skip))) (.reg [Zv 10 5,Zo 11 (.bin .add (.t 10) (.k (.int .i64 1))),Zv 5 11])))))) (.seq (.reg [Zo 4 (.mv (.k (.bool false)))]) .ret)))⟩
theorem a224_ok:J06 Tryz.prog Tryz.f224=some a224:=by kernel_rfl
def a153:AFn:= ⟨19,[.t 4],(.seq (.reg [Zo 4 (.mv (.k (.int .i64 0)))]) (.seq (.seq (.reg [Zv 6 0,Zo 7 (.len false (.t 6)),Zo 8 (.mv (.k (.int .i64 0)))]) (.blk 0 (.loop (.seq (.reg [Zo 9 (.bin .lss (.t 8) (.t 7))]) (.seq (.cond (.t 9) .skip (.exit 0)) (.seq (.blk 1 (.seq (.reg [Zv 10 8,Zv 5 10]) (.seq (.reg [Zv 11 1,Zv 12 0,Zv 13 5,Zo 14 (.ixa 1 (.t 12) (.t 13)),Zl 15 false 1 14,Zo 16 (.bin .eql (.t 11) (.t 15))]) (.cond (.t 16) (.seq (.reg [Zv 17 5,Zv 4 17]) .ret) .skip)))) (.reg [Zo 18 (.bin .add (.t 8) (.k (.int .i64 1))),Zv 8 18]))))))) (.seq (.reg [Zo 4 (.mv (.k (.int .i64 (-1))))]) .ret)))⟩
theorem a153_ok:J06 Tryz.prog Tryz.f153=some a153:=by kernel_rfl
def a72:AFn:= ⟨9,[.t 4],(.seq (.reg [Zo 4 (.mv (.k (.bool false)))]) (.seq (.reg [Zv 5 0,Zv 6 1,Zc 7 153 [.t 5,.t 6],Zo 8 (.bin .geq (.t 7) (.k (.int .i64 0))),Zv 4 8]) .ret))⟩
theorem a72_ok:J06 Tryz.prog Tryz.f72=some a72:=by kernel_rfl
def a63:AFn:= ⟨19,[.t 4],(.seq (.reg [Zo 4 (.mv (.k (.int .i64 0)))]) (.seq (.seq (.reg [Zo 5 (.mv (.k (.int .i64 0)))]) (.blk 0 (.loop (.seq (.seq (.reg [Zv 6 5,Zv 7 0,Zo 8 (.len false (.t 7)),Zo 9 (.bin .lss (.t 6) (.t 8))]) (.cond (.t 9) .skip (.exit 0))) (.seq (.blk 1 (.seq (.reg [Zv 12 0,Zv 13 5,Zo 14 (.ixa 1 (.t 12) (.t 13)),Zl 15 false 1 14,Zv 16 1,Zo 17 (.bin .eql (.t 15) (.t 16))]) (.cond (.t 17) (.seq (.reg [Zv 18 5,Zv 4 18]) .ret) .skip))) (.reg [Zv 10 5,Zo 11 (.bin .add (.t 10) (.k (.int .i64 1))),Zv 5 11])))))) (.seq (.reg [Zo 4 (.mv (.k (.int .i64 (-1))))]) .ret)))⟩
theorem a63_ok:J06 Tryz.prog Tryz.f63=some a63:=by kernel_rfl
def a333:AFn:= ⟨2,[.t 0],(.seq (.reg [Zo 0 (.mv (.k (.nil 1)))]) (.seq (.reg [Zo 1 (.bsl 1 [(.k (.str [102,117,110])),(.k (.str [112,114,101])),(.k (.str [114,117,108,101])),(.k (.str [114,101,116,117,114,110])),(.k (.str [110,105,108]))]),Zv 0 1]) .ret))⟩
theorem a333_ok:J06 Tryz.prog Tryz.f333=some a333:=by kernel_rfl
def a317:AFn:= ⟨6,[.t 2],(.seq (.reg [Zo 2 (.mv (.k (.bool false)))]) (.seq (.reg [Zc 3 333 [],Zv 4 0,Zc 5 224 [.t 3,.t 4],Zv 2 5]) .ret))⟩
theorem a317_ok:J06 Tryz.prog Tryz.f317=some a317:=by kernel_rfl
def a143:AFn:= ⟨50,[.t 2],(.seq (.reg [Zo 2 (.mv (.k (.bool false)))]) (.seq (.seq (.reg [Zv 6 0,Zo 7 (.len true (.t 6)),Zc 8 102 [.t 7,(.k (.int .i64 1)),(.k (.int .i64 8))],Zo 9 (.un .not (.t 8)),Zv 10 9,⟨some 11,.mv (.t 0),(some (10,false))⟩,⟨some 12,.call (.k (.fn (.func 230) [] [])) [.t 11],(some (10,false))⟩,Zo 13 (.pick (.t 10) (.k (.bool true)) (.t 12))]) (.cond (.t 13) (.seq (.reg [Zo 2 (.mv (.k (.bool false)))]) .ret) .skip)) (.seq (.seq (.reg [Zo 3 (.mv (.k (.int .i64 0)))]) (.blk 0 (.loop (.seq (.seq (.reg [Zv 14 3,Zv 15 0,Zo 16 (.len true (.t 15)),Zo 17 (.bin .lss (.t 14) (.t 16))]) (.cond (.t 17) .skip (.exit 0))) (.seq (.blk 1 (.seq (.reg [Zv 20 0,Zv 21 3,Zo 22 (.ixs (.t 20) (.t 21)),Zo 23 (.bin .geq (.t 22) (.k (.int .u8 97))),Zv 24 23,⟨some 25,.mv (.t 0),(some (24,true))⟩,⟨some 26,.mv (.t 3),(some (24,true))⟩,⟨some 27,.ixs (.t 25) (.t 26),(some (24,true))⟩,⟨some 28,.bin .leq (.t 27) (.k (.int .u8 122)),(some (24,true))⟩,Zo 29 (.pick (.t 24) (.t 28) (.k (.bool false))),Zv 4 29]) (.seq (.reg [Zv 30 0,Zv 31 3,Zo 32 (.ixs (.t 30) (.t 31)),Zo 33 (.bin .geq (.t 32) (.k (.int .u8 48))),Zv 34 33,⟨some 35,.mv (.t 0),(some (34,true))⟩,⟨some 36,.mv (.t 3),(some (34,true))⟩,⟨some 37,.ixs (.t 35) (.t 36),(some (34,true))⟩,⟨some 38,.bin .leq (.t 37) (.k (.int .u8 57)),(some (34,true))⟩,Zo 39 (.pick (.t 34) (.t 38) (.k (.bool false))),Zv 5 39]) (.seq (.reg [Zv 40 4,Zo 41 (.un .not (.t 40)),Zv 42 41,⟨some 43,.mv (.t 5),(some (42,true))⟩,⟨some 44,.mv (.t 43),(some (42,true))⟩,⟨some 45,.mv (.t 3),(some (44,true))⟩,⟨some 46,.bin .gtr (.t 45) (.k (.int .i64 0)),(some (44,true))⟩,⟨some 47,.pick (.t 44) (.t 46) (.k (.bool false)),(some (42,true))⟩,⟨some 48,.un .not (.t 47),(some (42,true))⟩,Zo 49 (.pick (.t 42) (.t 48) (.k (.bool false)))]) (.cond (.t 49) (.seq (.reg [Zo 2 (.mv (.k (.bool false)))]) .ret) .skip))))) (.reg [Zv 18 3,Zo 19 (.bin .add (.t 18) (.k (.int .i64 1))),Zv 3 19])))))) (.seq (.reg [Zo 2 (.mv (.k (.bool true)))]) .ret))))⟩
theorem a143_ok:J06 Tryz.prog Tryz.f143=some a143:=by kernel_rfl
def a316:AFn:= ⟨45,[.t 2],(.seq (.reg [Zo 2 (.mv (.k (.bool false)))]) (.seq (.seq (.reg [Zo 3 (.mv (.k (.int .i64 0)))]) (.blk 0 (.loop (.seq (.seq (.reg [Zv 6 3,Zv 7 0,Zo 8 (.len true (.t 7)),Zo 9 (.bin .lss (.t 6) (.t 8))]) (.cond (.t 9) .skip (.exit 0))) (.seq (.blk 1 (.seq (.reg [Zv 12 0,Zv 13 3,Zo 14 (.ixs (.t 12) (.t 13)),Zo 15 (.bin .geq (.t 14) (.k (.int .u8 97))),Zv 16 15,⟨some 17,.mv (.t 0),(some (16,true))⟩,⟨some 18,.mv (.t 3),(some (16,true))⟩,⟨some 19,.ixs (.t 17) (.t 18),(some (16,true))⟩,⟨some 20,.bin .leq (.t 19) (.k (.int .u8 122)),(some (16,true))⟩,Zo 21 (.pick (.t 16) (.t 20) (.k (.bool false))),Zv 4 21]) (.seq (.reg [Zv 22 0,Zv 23 3,Zo 24 (.ixs (.t 22) (.t 23)),Zo 25 (.bin .geq (.t 24) (.k (.int .u8 48))),Zv 26 25,⟨some 27,.mv (.t 0),(some (26,true))⟩,⟨some 28,.mv (.t 3),(some (26,true))⟩,⟨some 29,.ixs (.t 27) (.t 28),(some (26,true))⟩,⟨some 30,.bin .leq (.t 29) (.k (.int .u8 57)),(some (26,true))⟩,Zo 31 (.pick (.t 26) (.t 30) (.k (.bool false))),Zv 5 31]) (.seq (.reg [Zv 32 4,Zo 33 (.un .not (.t 32)),Zv 34 33,⟨some 35,.mv (.t 3),(some (34,true))⟩,⟨some 36,.bin .eql (.t 35) (.k (.int .i64 0)),(some (34,true))⟩,⟨some 37,.mv (.t 36),(some (34,true))⟩,⟨some 38,.mv (.t 5),(some (37,false))⟩,⟨some 39,.un .not (.t 38),(some (37,false))⟩,⟨some 40,.pick (.t 37) (.k (.bool true)) (.t 39),(some (34,true))⟩,Zo 41 (.pick (.t 34) (.t 40) (.k (.bool false)))]) (.cond (.t 41) (.seq (.reg [Zo 2 (.mv (.k (.bool false)))]) .ret) .skip))))) (.reg [Zv 10 3,Zo 11 (.bin .add (.t 10) (.k (.int .i64 1))),Zv 3 11])))))) (.seq (.reg [Zv 42 0,Zo 43 (.len true (.t 42)),Zo 44 (.bin .gtr (.t 43) (.k (.int .i64 0))),Zv 2 44]) .ret)))⟩
theorem a316_ok:J06 Tryz.prog Tryz.f316=some a316:=by kernel_rfl
def a285:AFn:= ⟨15,[.t 2],(.seq (.reg [Zo 2 (.mv (.k (.bool false)))]) (.seq (.reg [Zv 3 0,Zc 4 316 [.t 3],Zv 5 4,⟨some 6,.mv (.t 0),(some (5,true))⟩,⟨some 7,.len true (.t 6),(some (5,true))⟩,⟨some 8,.bin .leq (.t 7) (.k (.int .i64 8)),(some (5,true))⟩,Zo 9 (.pick (.t 5) (.t 8) (.k (.bool false))),Zv 10 9,⟨some 11,.mv (.t 0),(some (10,true))⟩,⟨some 12,.call (.k (.fn (.func 317) [] [])) [.t 11],(some (10,true))⟩,⟨some 13,.un .not (.t 12),(some (10,true))⟩,Zo 14 (.pick (.t 10) (.t 13) (.k (.bool false))),Zv 2 14]) .ret))⟩
theorem a285_ok:J06 Tryz.prog Tryz.f285=some a285:=by kernel_rfl
def a205:AFn:= ⟨13,[.t 2],(.seq (.reg [Zo 2 (.mv (.k (.bool false)))]) (.seq (.reg [Zv 3 0,Zc 4 143 [.t 3],Zv 5 4,⟨some 6,.mv (.t 0),(some (5,true))⟩,⟨some 7,.mv (.t 0),(some (5,true))⟩,⟨some 8,.len true (.t 7),(some (5,true))⟩,⟨some 9,.bin .sub (.t 8) (.k (.int .i64 1)),(some (5,true))⟩,⟨some 10,.ixs (.t 6) (.t 9),(some (5,true))⟩,⟨some 11,.bin .eql (.t 10) (.k (.int .u8 115)),(some (5,true))⟩,Zo 12 (.pick (.t 5) (.t 11) (.k (.bool false))),Zv 2 12]) .ret))⟩
theorem a205_ok:J06 Tryz.prog Tryz.f205=some a205:=by kernel_rfl
def a140:AFn:= ⟨10,[.t 2],(.seq (.reg [Zo 2 (.mv (.k (.bool false)))]) (.seq (.reg [Zv 3 0,Zc 4 143 [.t 3],Zv 5 4,⟨some 6,.mv (.t 0),(some (5,true))⟩,⟨some 7,.call (.k (.fn (.func 205) [] [])) [.t 6],(some (5,true))⟩,⟨some 8,.un .not (.t 7),(some (5,true))⟩,Zo 9 (.pick (.t 5) (.t 8) (.k (.bool false))),Zv 2 9]) .ret))⟩
theorem a140_ok:J06 Tryz.prog Tryz.f140=some a140:=by kernel_rfl
def a260:AFn:= ⟨13,[.t 2],(.seq (.reg [Zo 2 (.mv (.k (.bool false)))]) (.seq (.reg [Zv 3 0,Zc 4 285 [.t 3],Zv 5 4,⟨some 6,.mv (.t 0),(some (5,true))⟩,⟨some 7,.mv (.t 0),(some (5,true))⟩,⟨some 8,.len true (.t 7),(some (5,true))⟩,⟨some 9,.bin .sub (.t 8) (.k (.int .i64 1)),(some (5,true))⟩,⟨some 10,.ixs (.t 6) (.t 9),(some (5,true))⟩,⟨some 11,.bin .eql (.t 10) (.k (.int .u8 115)),(some (5,true))⟩,Zo 12 (.pick (.t 5) (.t 11) (.k (.bool false))),Zv 2 12]) .ret))⟩
theorem a260_ok:J06 Tryz.prog Tryz.f260=some a260:=by kernel_rfl
def a216:AFn:= ⟨10,[.t 2],(.seq (.reg [Zo 2 (.mv (.k (.bool false)))]) (.seq (.reg [Zv 3 0,Zc 4 285 [.t 3],Zv 5 4,⟨some 6,.mv (.t 0),(some (5,true))⟩,⟨some 7,.call (.k (.fn (.func 260) [] [])) [.t 6],(some (5,true))⟩,⟨some 8,.un .not (.t 7),(some (5,true))⟩,Zo 9 (.pick (.t 5) (.t 8) (.k (.bool false))),Zv 2 9]) .ret))⟩
theorem a216_ok:J06 Tryz.prog Tryz.f216=some a216:=by kernel_rfl
theorem Jdp (s:Str):Holds Tryz.prog 230 [.str s] (fun r=>r = .bool (Jpo s)):=by
 by_cases e1:s=[102,117,110]
 ·subst e1
  refine J03 Tryz.func230 a230_ok rfl (by simp [a230]) ?_
  simp [a230,Jpo,J2p,Jg7]
 by_cases e2:s=[112,114,101]
 ·subst e2
  refine J03 Tryz.func230 a230_ok rfl (by simp [a230]) ?_
  simp [a230,Jpo,J2p,Jg7]
 by_cases e3:s=[114,117,108,101]
 ·subst e3
  refine J03 Tryz.func230 a230_ok rfl (by simp [a230]) ?_
  simp [a230,Jpo,J2p,Jg7]
 by_cases e4:s=[114,101,116,117,114,110]
 ·subst e4
  refine J03 Tryz.func230 a230_ok rfl (by simp [a230]) ?_
  simp [a230,Jpo,J2p,Jg7]
 by_cases e5:s=[110,105,108]
 ·subst e5
  refine J03 Tryz.func230 a230_ok rfl (by simp [a230]) ?_
  simp [a230,Jpo,J2p,Jg7]
 have hr:Jpo s=false:=by simp [Jpo,J2p,Jg7,Ne.symm e1,Ne.symm e2,Ne.symm e3,Ne.symm e4,Ne.symm e5]
 rw [hr]
 refine J03 Tryz.func230 a230_ok rfl (by simp [a230]) ?_
 simp [a230,e1,e2,e3,e4,e5]
theorem Jsw {l:List Str}{s:Str}{i:Nat}(hi:i<l.length):J2p (l.drop i) s=((l[i]==s)||J2p (l.drop (i+1)) s):=by
 rw [List.drop_eq_getElem_cons hi];rfl
theorem J9z (l:List Str) (s:Str):Holds Tryz.prog 224 [.sl 1 (J0a l),.str s] (fun r=>r = .bool (J2p l s)):=by
 refine J1l Tryz.func224 rfl rfl fun hl => ?_
 simp at hl
 refine J03 Tryz.func224 a224_ok rfl (by simp [a224]) ?_
 simp [a224]
 generalize hB:J2p l s=B
 refine J60 [0,1] 5 l.length (fun i _=>J2p (l.drop i) s=B) hl.1 (by simp) (by simpa using hB) ?_ ?_
 ·rintro i st h R hi hg hk s5 hw hJ hh hR hret _
  simp at hk
  rw [Jsw hi] at hJ
  simp [hk,s5,hi,hg]
  intro _
  by_cases hx:l[i]=s
  ·simp [hx] at hJ
   simp [hx]
   refine hret _ _ _ ?_
   simp [hJ]
  ·have:(l[i]==s)=false:=by simpa using hx
   rw [this,Bool.false_or] at hJ
   simp [hx,hk,s5,hw]
   exact hR _ (by simp [hk]) (by simp) hJ
 ·rintro st h R hk s5 hJ hh _ hX
  simp at hk
  rw [List.drop_eq_nil_of_le (by omega)] at hJ
  simp [hk,s5]
  intro _
  refine hX _ _ ?_
  simp [←hJ,J2p]
theorem Jso (l:List Str) (s:Str):Holds Tryz.prog 153 [.sl 1 (J0a l),.str s] (fun r=>r=i64 (J0t (fun x=>x==s) l 0)):=by
 refine J1l Tryz.func153 rfl rfl fun hl => ?_
 simp at hl
 refine J03 Tryz.func153 a153_ok rfl (by simp [a153]) ?_
 simp [a153]
 intro _
 generalize hB:J0t (fun x=>x==s) l 0=B
 refine J60 [0,1,7] 8 l.length (fun i _=>J0t (fun x=>x==s) (l.drop i) i=B) hl.1 (by simp) (by simpa using hB) ?_ ?_
 ·rintro i st h R hi hg hk s8 hw hJ hh hR hret _
  simp at hk
  rw [List.drop_eq_getElem_cons hi] at hJ
  simp only [J0t] at hJ
  simp [hk,s8,hi,hg]
  by_cases hx:s=l[i]
  ·rw [if_pos (by simp [hx])] at hJ
   simp [hx]
   refine hret _ _ _ ?_
   simp [hJ]
  ·rw [if_neg (by simpa using fun h=>hx h.symm)] at hJ
   simp [hx,hk,s8,hw]
   exact hR _ (by simp [hk]) (by simp) hJ
 ·rintro st h R hk s8 hJ hh _ hX
  simp at hk
  rw [List.drop_eq_nil_of_le (by omega)] at hJ
  simp [hk,s8]
  refine hX _ _ ?_
  simp [←hJ,J0t]
theorem J4k (l:List Str) (s:Str):Holds Tryz.prog 72 [.sl 1 (J0a l),.str s] (fun r=>r = .bool (J2p l s)):=by
 refine J03 Tryz.func72 a72_ok rfl (by simp [a72]) ?_
 simp [a72]
 first|refine J01 (Jso l s) (by first|simp;done|rfl) ?_|refine J02 (Jso l s) (by first|simp;done|rfl) ?_
 rintro r rfl
 have:=J6c (p:=fun x=>x==s) (l:=l) (i:=0)
 simp only [ge_iff_le] at this
 simp [this,J2p]
theorem J28 (l:List Str) (s:Str):Holds Tryz.prog 63 [.sl 1 (J0a l),.str s] (fun r=>r=i64 (J0t (fun x=>x==s) l 0)):=by
 refine J1l Tryz.func63 rfl rfl fun hl => ?_
 simp at hl
 refine J03 Tryz.func63 a63_ok rfl (by simp [a63]) ?_
 simp [a63]
 generalize hB:J0t (fun x=>x==s) l 0=B
 refine J60 [0,1] 5 l.length (fun i _=>J0t (fun x=>x==s) (l.drop i) i=B) hl.1 (by simp) (by simpa using hB) ?_ ?_
 ·rintro i st h R hi hg hk s5 hw hJ hh hR hret _
  simp at hk
  rw [List.drop_eq_getElem_cons hi] at hJ
  simp only [J0t] at hJ
  simp [hk,s5,hi,hg]
  intro _
  by_cases hx:l[i]=s
  ·rw [if_pos (by simp [hx])] at hJ
   simp [hx,s5]
   refine hret _ _ _ ?_
   simp [hJ]
  ·rw [if_neg (by simpa using hx)] at hJ
   simp [hx,hk,s5,hw]
   exact hR _ (by simp [hk]) (by simp) hJ
 ·rintro st h R hk s5 hJ hh _ hX
  simp at hk
  rw [List.drop_eq_nil_of_le (by omega)] at hJ
  simp [hk,s5]
  intro _
  refine hX _ _ ?_
  simp [←hJ,J0t]
theorem Jbr:Holds Tryz.prog 333 [] (fun r=>r = .us 1 (J0a Jg7)):=by
 refine J03 Tryz.func333 a333_ok rfl (by simp [a333]) ?_
 simp [a333]
 simp [J0a,Jg7]
theorem Jbo (s:Str):Holds Tryz.prog 317 [.str s] (fun r=>r = .bool (Jpo s)):=by
 refine J03 Tryz.func317 a317_ok rfl (by simp [a317]) ?_
 simp [a317]
 first|refine J01 (Jbr) (by first|simp;done|rfl) ?_|refine J02 (Jbr) (by first|simp;done|rfl) ?_
 rintro r rfl
 simp
 first|refine J01 (J9z Jg7 s) (by first|simp;done|rfl) ?_|refine J02 (J9z Jg7 s) (by first|simp;done|rfl) ?_
 rintro r rfl
 simp [Jpo]
theorem Jhh {s:Str}{i:Nat}(hi:i<s.length):J4h i (s.drop i)=((Jj0 s[i]||(decide (i≠0)&&Joj s[i]))&&J4h (i+1) (s.drop (i+1))):=by
 rw [List.drop_eq_getElem_cons hi];rfl
theorem J51 (s:Str):Holds Tryz.prog 143 [.str s] (fun r=>r = .bool (J3v s)):=by
 refine J03 Tryz.func143 a143_ok rfl (by simp [a143]) ?_
 simp [a143]
 intro hl
 first|refine J01 (J24 s.length 1 8) (by first|simp;done|rfl) ?_|refine J02 (J24 s.length 1 8) (by first|simp;done|rfl) ?_
 rintro r rfl
 unfold J3v
 cases h1:inR s.length 1 8
 ·simp
 simp
 first|refine J01 (Jdp s) (by first|simp;done|rfl) ?_|refine J02 (Jdp s) (by first|simp;done|rfl) ?_
 rintro r rfl
 cases h2:Jpo s
 case true=>simp
 simp
 generalize hB:J4h 0 s=B
 refine J60 [0] 3 s.length (fun i _=>J4h i (s.drop i)=B) hl (by simp) (by simpa using hB) ?_ ?_
 ·rintro i st h R hi hg hk s3 hw hJ hh hR hret _
  simp at hk
  rw [Jhh hi] at hJ
  have hgd:s[i]?.getD 0=s[i]:=by simp [hi]
  unfold Jj0 Joj at hJ
  obtain ⟨m,hm⟩:∃ m:Int,((s[i]).toNat:Int)=m:=⟨_,rfl⟩
  rw [hm] at hJ
  refine J0i [0,3] (fun _=>True) (by simp [hk,s3,hi]) ?_
  intro s1 hk1 _
  simp at hk1
  refine J0b (J1h (J0i [0,3] (fun s=>s 4 = .bool (decide (97≤m)&&decide (m≤122))) ?_ ?_))
  ·by_cases u1:97≤m <;> by_cases u2:m≤122 <;> simp [hk,s3,hk1,hi,hgd,hm,u1,u2]
  intro s2 hk2 s4
  simp at hk2
  refine J0i [0,3,4] (fun s=>s 5 = .bool (decide (48≤m)&&decide (m≤57))) ?_ ?_
  ·by_cases u1:48≤m <;> by_cases u2:m≤57 <;> simp [hk,s3,hk1,hk2,hi,hgd,hm,u1,u2]
  intro s5 hk5 s55
  simp at hk5
  generalize (decide (97≤m)&&decide (m≤122))=L at *
  generalize (decide (48≤m)&&decide (m≤57))=D at *
  cases L
  ·cases D
   ·rw [Bool.and_false,Bool.or_false,Bool.false_and] at hJ
    simp [hk,s3,hk1,hk2,hk5,s4,s55]
    refine hret _ _ _ ?_
    simp [hJ]
   ·by_cases h0:i=0
    ·subst h0
     simp at hJ
     simp [hk,s3,hk1,hk2,hk5,s4,s55]
     refine hret _ _ _ ?_
     simp [hJ]
    ·simp [h0] at hJ
     simp [hk,s3,hk1,hk2,hk5,s4,s55,hw,(by omega:0<i)]
     exact hR _ (by simp [hk,hk1,hk2,hk5]) (by simp) hJ
  ·simp at hJ
   simp [hk,s3,hk1,hk2,hk5,s4,s55,hw]
   exact hR _ (by simp [hk,hk1,hk2,hk5]) (by simp) hJ
 ·rintro st h R hk s3 hJ hh _ hX
  simp at hk
  rw [List.drop_eq_nil_of_le (by omega)] at hJ
  simp [hk,s3]
  intro _
  refine hX _ _ ?_
  simp [←hJ,J4h]
set_option maxHeartbeats 1000000 in
theorem Jhv (s:Str):Holds Tryz.prog 316 [.str s] (fun r=>r = .bool (J4h 0 s&&decide (0<s.length))):=by
 refine J1l Tryz.func316 rfl rfl fun hl => ?_
 simp at hl
 refine J03 Tryz.func316 a316_ok rfl (by simp [a316]) ?_
 simp [a316]
 generalize hB:J4h 0 s=B
 refine J60 [0] 3 s.length (fun i _=>J4h i (s.drop i)=B) hl (by simp) (by simpa using hB) ?_ ?_
 ·rintro i st h R hi hg hk s3 hw hJ hh hR hret _
  simp at hk
  rw [Jhh hi] at hJ
  have hgd:s[i]?.getD 0=s[i]:=by simp [hi]
  unfold Jj0 Joj at hJ
  obtain ⟨m,hm⟩:∃ m:Int,((s[i]).toNat:Int)=m:=⟨_,rfl⟩
  rw [hm] at hJ
  refine J0i [0,3] (fun _=>True) (by simp [hk,s3,hi]) ?_
  intro s1 hk1 _
  simp at hk1
  refine J0b (J1h (J0i [0,3] (fun s=>s 4 = .bool (decide (97≤m)&&decide (m≤122))) ?_ ?_))
  ·by_cases u1:97≤m <;> by_cases u2:m≤122 <;> simp [hk,s3,hk1,hi,hgd,hm,u1,u2]
  intro s2 hk2 s4
  simp at hk2
  refine J0i [0,3,4] (fun s=>s 5 = .bool (decide (48≤m)&&decide (m≤57))) ?_ ?_
  ·by_cases u1:48≤m <;> by_cases u2:m≤57 <;> simp [hk,s3,hk1,hk2,hi,hgd,hm,u1,u2]
  intro s5 hk5 s55
  simp at hk5
  generalize (decide (97≤m)&&decide (m≤122))=L at *
  generalize (decide (48≤m)&&decide (m≤57))=D at *
  cases L
  ·cases D
   ·rw [Bool.and_false,Bool.or_false,Bool.false_and] at hJ
    subst hJ
    by_cases h0:i=0
    ·subst h0
     simp [hk,s3,hk1,hk2,hk5,s4,s55]
     refine hret _ _ _ ?_
     simp
    ·simp [hk,s3,hk1,hk2,hk5,s4,s55,h0]
     refine hret _ _ _ ?_
     simp
   ·by_cases h0:i=0
    ·subst h0
     simp at hJ
     subst hJ
     simp [hk,s3,hk1,hk2,hk5,s4,s55]
     refine hret _ _ _ ?_
     simp
    ·simp [h0] at hJ
     simp [hk,s3,hk1,hk2,hk5,s4,s55,hw,h0]
     exact hR _ (by simp [hk,hk1,hk2,hk5]) (by simp) hJ
  ·simp at hJ
   simp [hk,s3,hk1,hk2,hk5,s4,s55,hw]
   exact hR _ (by simp [hk,hk1,hk2,hk5]) (by simp) hJ
 ·rintro st h R hk s3 hJ hh _ hX
  simp at hk
  rw [List.drop_eq_nil_of_le (by omega)] at hJ
  refine J0i [] (fun _=>False) ?_ (fun _ _ h=>h.elim)
  simp [hk,s3]
  intro _
  refine hX _ _ ?_
  subst hJ
  simp [hk,J4h]
theorem J3e (s:Str):Holds Tryz.prog 285 [.str s] (fun r=>r = .bool (J3v s)):=by
 refine J03 Tryz.func285 a285_ok rfl (by simp [a285]) ?_
 simp [a285]
 first|refine J01 (Jhv s) (by first|simp;done|rfl) ?_|refine J02 (Jhv s) (by first|simp;done|rfl) ?_
 rintro r rfl
 unfold J3v inR
 cases h1:J4h 0 s
 ·simp
 by_cases h2:0<s.length
 case neg=>
  have:s.length=0:=by omega
  simp [this]
 have h2':(1:Int)≤s.length:=by omega
 simp [h2,h2']
 intro _
 by_cases h3:s.length≤8
 case neg=>
  have h3':¬(s.length:Int)≤8:=by omega
  simp [h3,h3']
 have h3':(s.length:Int)≤8:=by omega
 simp [h3,h3',Int.not_lt.2 h3']
 first|refine J01 (Jbo s) (by first|simp;done|rfl) ?_|refine J02 (Jbo s) (by first|simp;done|rfl) ?_
 rintro r rfl
 simp
theorem Jx2 (c:UInt8):((c.toNat:Int)==115)=(c==115):=by
 rw [Bool.eq_iff_iff]
 simp only [beq_iff_eq]
 constructor
 ·intro h
  exact UInt8.toNat_inj.1 (by simp;omega)
 ·rintro rfl
  rfl
theorem J1v (s:Str):Holds Tryz.prog 205 [.str s] (fun r=>r = .bool (J0n s)):=by
 refine J03 Tryz.func205 a205_ok rfl (by simp [a205]) ?_
 simp [a205]
 first|refine J01 (J51 s) (by first|simp;done|rfl) ?_|refine J02 (J51 s) (by first|simp;done|rfl) ?_
 rintro r rfl
 unfold J0n
 cases h1:J3v s
 ·simp
 obtain ⟨h2,h3⟩:=Jhf h1
 simp
 intro _
 rw [J0r (by omega)]
 have e:((s.length:Int) - 1).toNat=s.length - 1:=by omega
 simp [e]
 refine ⟨by omega,by omega,?_⟩
 exact Jx2 _
theorem J4y (s:Str):Holds Tryz.prog 140 [.str s] (fun r=>r = .bool (J2o s)):=by
 refine J03 Tryz.func140 a140_ok rfl (by simp [a140]) ?_
 simp [a140]
 first|refine J01 (J51 s) (by first|simp;done|rfl) ?_|refine J02 (J51 s) (by first|simp;done|rfl) ?_
 rintro r rfl
 unfold J2o
 cases h1:J3v s
 ·simp
 simp
 first|refine J01 (J1v s) (by first|simp;done|rfl) ?_|refine J02 (J1v s) (by first|simp;done|rfl) ?_
 rintro r rfl
 simp
theorem J1c (s:Str):Holds Tryz.prog 260 [.str s] (fun r=>r = .bool (J0n s)):=by
 refine J03 Tryz.func260 a260_ok rfl (by simp [a260]) ?_
 simp [a260]
 first|refine J01 (J3e s) (by first|simp;done|rfl) ?_|refine J02 (J3e s) (by first|simp;done|rfl) ?_
 rintro r rfl
 unfold J0n
 cases h1:J3v s
 ·simp
 obtain ⟨h2,h3⟩:=Jhf h1
 simp
 intro _
 rw [J0r (by omega)]
 have e:((s.length:Int) - 1).toNat=s.length - 1:=by omega
 simp [e]
 refine ⟨by omega,by omega,?_⟩
 exact Jx2 _
theorem J54 (s:Str):Holds Tryz.prog 216 [.str s] (fun r=>r = .bool (J2o s)):=by
 refine J03 Tryz.func216 a216_ok rfl (by simp [a216]) ?_
 simp [a216]
 first|refine J01 (J3e s) (by first|simp;done|rfl) ?_|refine J02 (J3e s) (by first|simp;done|rfl) ?_
 rintro r rfl
 unfold J2o
 cases h1:J3v s
 ·simp
 simp
 first|refine J01 (J1c s) (by first|simp;done|rfl) ?_|refine J02 (J1c s) (by first|simp;done|rfl) ?_
 rintro r rfl
 simp
def a305:AFn:= ⟨21,[(.c 6 true 2)],(.seq (.reg [Zo 3 (.boxv (.t 0)),Zo 6 (.box [(.int .i64 0),(.nil 1)])]) (.seq (.reg [Zf 8 0 3,Zl 9 false 1 8,Zv 10 1,Zc 11 63 [.t 9,.t 10],Zv 7 11]) (.seq (.seq (.reg [Zv 12 7,Zo 13 (.bin .lss (.t 12) (.k (.int .i64 0)))]) (.cond (.t 13) (.seq (.reg [Zv 14 2,Zc 15 99 [(.k (.int .i64 0)),.t 14],⟨no,.st 2 (.t 6) (.t 15),no⟩]) .ret) .skip)) (.seq (.reg [Zf 16 1 3,Zl 17 false 1 16,Zv 18 7,Zo 19 (.ixa 2 (.t 17) (.t 18)),Zl 20 true 2 19,⟨no,.st 2 (.t 6) (.t 20),no⟩]) .ret))))⟩
theorem a305_ok:J06 Tryz.prog Tryz.f305=some a305:=by kernel_rfl
def a265:AFn:= ⟨19,[.t 2],(.seq (.reg [Zo 2 (.mv (.k (.int .i64 0)))]) (.seq (.reg [Zo 3 (.mv (.k (.int .i64 0)))]) (.seq (.seq (.reg [Zo 4 (.mv (.k (.int .i64 0)))]) (.blk 0 (.loop (.seq (.seq (.reg [Zv 5 4,Zv 6 0,Zo 7 (.len false (.t 6)),Zo 8 (.bin .lss (.t 5) (.t 7))]) (.cond (.t 8) .skip (.exit 0))) (.seq (.blk 1 (.seq (.reg [Zv 11 0,Zv 12 4,Zo 13 (.ixa 4 (.t 11) (.t 12)),Zf 14 1 13,Zl 15 false 1 14]) (.cond (.t 15) (.reg [Zv 16 3,Zo 17 (.bin .add (.t 16) (.k (.int .i64 1))),Zv 3 17]) .skip))) (.reg [Zv 9 4,Zo 10 (.bin .add (.t 9) (.k (.int .i64 1))),Zv 4 10])))))) (.seq (.reg [Zv 18 3,Zv 2 18]) .ret))))⟩
theorem a265_ok:J06 Tryz.prog Tryz.f265=some a265:=by kernel_rfl
theorem J41.bwS {b:Nat}{l:List Str}{v:AV}{h:Heap}{n:Nat}(x:J41 b 1 (J0a l) v h n):bw v h=some (.sl 1 (J0a l)):=by
 rcases x with ⟨h1,rfl⟩|⟨i,_,_,rfl,hb⟩
 ·rw [h1];rfl
 ·simp [hb,List.take_of_length_le]
def J3h (E:SEnv):List DLin:=E.map (·.2)
theorem J9f {P:Program}{f:FuncId}{xs xs':List AV}{h:Heap}{n:Nat}{Qr:AV→Prop}{K:AV→Heap→Nat→Prop}(hh:Holds P f xs' Qr) (hb:bwl xs h=some xs') (hK:∀ r,Qr r→K (dr r) h n):J2c P f xs h n K:=by
 refine ⟨hh.1,fun base w0 w L F vs H hv => ?_⟩
 refine (hh.2 w vs (J6o H xs hv hb)).mono ?_
 rintro e w' ⟨v,r,S,rfl,hq,hcl,hbel,hr,hnd,hS⟩
 obtain ⟨g1,g2⟩:=H.after hbel
 exact ⟨v,dr r,L,n,F,h,rfl,g1,g2,Jyw _ _ _ (Jsg r v S hcl (fun b hb ho=>absurd (H.own_lt ho) (by have:=(hS b hb).1;omega)) hr),hK r hq⟩
theorem Jcx {P:Program}{f:FuncId}{xs xs':List AV}{h:Heap}{n:Nat}{Qr:AV→Prop}{K:AV→Heap→Nat→Prop}(hh:Holds P f xs' Qr) (hb:bwl xs h=some xs') (hk:∀ r,Qr r→K (dr r) h n):J2c P f xs h n (hK h K):=
 J9f hh hb fun r hr=>⟨J7l.refl h,hk r hr⟩
@[simp] theorem Jto (x:DLin):drl (J05 x)=J05 x:=by simp [J05]
@[simp] theorem K3q (l:List DLin):drr (l.map J05)=l.map J05:=by rw [J4n,List.map_map];exact List.map_congr_left fun x _=>Jto x
@[simp] theorem K7n (x:DLin) (h:Heap):dtl (J05 x) h=some (J05 x,h):=by simp [J05]
theorem J41.bwA {b:Nat}{l:List DLin}{v:AV}{h:Heap}{n:Nat}(x:J41 b 2 (l.map J05) v h n):bw v h=some (.sl 2 (l.map J05)):=by
 rcases x with ⟨h1,rfl⟩|⟨i,_,_,rfl,hb⟩
 ·have:l=[]:=by simpa using h1
  subst this;simp
 ·simp [hb,List.take_of_length_le]
def SVs (v:AV) (l:List Str) (h:Heap) (n:Nat):Prop:=v = .sl 1 (J0a l)∨∃ b,J41 b 1 (J0a l) v h n
def SVl (v:AV) (l:List DLin) (h:Heap) (n:Nat):Prop:=v = .sl 2 (l.map J05)∨∃ b,J41 b 2 (l.map J05) v h n
theorem SVs.bw {v:AV}{l:List Str}{h h':Heap}{n:Nat}(x:SVs v l h n) (hh:∀ id,id<n→h' id=h id):Go.Proofs.YtoclolkigjbcgaaGreat.bw v h'=some (.sl 1 (J0a l)):=by
 rcases x with rfl|⟨b,x⟩
 ·simp
 ·exact (x.keep (Nat.le_refl _) fun id _ hid _=>hh id hid).bwS
theorem SVs.cell {v:AV}{l:List Str}{h:Heap}{n:Nat}(x:SVs v l h n):J0x v=true:=by
 rcases x with rfl|⟨b,⟨_,rfl⟩|⟨i,_,_,rfl,_⟩⟩ <;> rfl
theorem SVl.cell {v:AV}{l:List DLin}{h:Heap}{n:Nat}(x:SVl v l h n):J0x v=true:=by
 rcases x with rfl|⟨b,⟨_,rfl⟩|⟨i,_,_,rfl,_⟩⟩ <;> rfl
theorem Jq1 {x:Str}{E:SEnv} : (J0t (fun y=>y==x) (J1d E) 0 = -1∧∀ d,J38 d E x=d)∨∃ j:Nat,∃ hj:j<E.length,J0t (fun y=>y==x) (J1d E) 0=(j:Int)∧∀ d,J38 d E x=(E[j]).2:=by
 have key:∀ (E:SEnv) (k:Nat),(J0t (fun y=>y==x) (J1d E) k = -1∧∀ d,J38 d E x=d)∨∃ j:Nat,∃ hj:j<E.length,J0t (fun y=>y==x) (J1d E) k=((k+j:Nat):Int)∧∀ d,J38 d E x=(E[j]).2:=by
  intro E
  induction E with
  | nil=>intro k;exact .inl ⟨rfl,fun _=>rfl⟩
  | cons e E ih=>
   intro k
   simp only [J1d,List.map_cons,J0t,J38,List.find?_cons]
   cases hb:e.1==x
   ·simp only [Bool.false_eq_true,if_false]
    rcases ih (k+1) with ⟨h1,h2⟩|⟨j,hj,h1,h2⟩
    ·exact .inl ⟨h1,h2⟩
    ·exact .inr ⟨j+1,by simp;omega,by rw [J1d] at h1;rw [h1];congr 1;omega,by simpa [J38] using h2⟩
   ·exact .inr ⟨0,by simp,by simp,fun d=>by simp⟩
 simpa using key E 0
theorem Jic {E:SEnv}{vN vL:AV}{h:Heap}{n N:Nat}{x:Str}(A:SVs vN (J1d E) h n) (B:SVl vL (J3h E) h n) (hE:E.length≤1048576) {K:AV→Heap→Nat→Prop}
 (hK:∀ w h' n',n≤n'→(∀ id,id<n→h' id=h id)→J0x w=true→(∀ H:Heap,(∀ id,id<n'→H id=h' id)→bw w H=some (.sl 1 (J0m (J38 (J09 0 N) E x).Coeffs)))→K (.agg [.int .i64 (J38 (J09 0 N) E x).Const,w]) h' n') :
 J2c Tryz.prog 305 [.agg [vN,vL],.str x,i64 N] h n K:=by
 refine J17 Tryz.func305 a305_ok rfl (by simp [a305]) ?_
 have ne:¬n=n+1∧¬n+1=n∧¬n=n+1+1∧¬n+1+1=n∧¬n+1=n+1+1∧¬n+1+1=n+1:=by omega
 have fr:∀ id,id<n→¬id=n∧¬id=n+1∧¬id=n+1+1∧¬id=n+2:=by intro id _;omega
 have cN:=A.cell
 have cL:=B.cell
 have hbN:∀ y z,bw vN (upd (upd h n y) (n+1) z)=some (.sl 1 (J0a (J1d E))):=fun y z=>A.bw fun id hid=>by simp [fr id hid]
 simp [a305,-J0x,cN,cL,ne]
 first|refine J01 (J28 (J1d E) x) (by first|simp [hbN];done|rfl) ?_|refine J02 (J28 (J1d E) x) (by first|simp [hbN];done|rfl) ?_
 rintro r rfl
 rcases Jq1 (x:=x) (E:=E) with ⟨h1,h2⟩|⟨j,hj,h1,h2⟩
 ·rw [h1]
  rw [h2] at hK
  simp [ne]
  first|refine J01 (J21 0 N) (by first|simp;done|rfl) ?_|refine J02 (J21 0 N) (by first|simp;done|rfl) ?_
  rintro r rfl
  simp [J08,ne]
  refine hK _ _ _ (by omega) (fun id hid=>by simp [fr id hid]) rfl fun H hH => ?_
  have:=hH (n+2) (by omega)
  simp at this
  simp [this]
 ·rw [h1]
  rw [h2] at hK
  have hj0:¬(j:Int)<0:=by omega
  have hjv:j<(J3h E).length:=by simpa [J3h] using hj
  have hve:(J3h E)[j]=(E[j]).2:=by simp [J3h]
  rcases B with rfl|⟨b,⟨hz,rfl⟩|⟨i,_,hin,rfl,hib⟩⟩
  ·simp [ne,hjv,hj0,hve,J05]
   exact hK _ _ _ (by omega) (fun id hid=>by simp [fr id hid]) rfl fun H hH=>by simp
  ·have:E=[]:=by simpa [J3h] using hz
   subst this;simp at hj
  ·have ni:=fr i hin
   simp [ne,hjv,hj0,ni,hib,hve,J05]
   exact hK _ _ _ (by omega) (fun id hid=>by simp [fr id hid]) rfl fun H hH=>by simp
theorem Jm8 {E:SEnv}{vN vL:AV}{h:Heap}{n N:Nat}{x:Str}{d:DLin}(A:SVs vN (J1d E) h n) (B:SVl vL (J3h E) h n) (hx:x∈J1d E) {K:AV→Heap→Nat→Prop}
 (hK:∀ h' n',n≤n'→(∀ id,id<n→h' id=h id)→K (.agg (J05 (J38 d E x))) h' n') :
 J2c Tryz.prog 305 [.agg [vN,vL],.str x,i64 N] h n K:=by
 refine J17 Tryz.func305 a305_ok rfl (by simp [a305]) ?_
 have ne:¬n=n+1∧¬n+1=n∧¬n=n+1+1∧¬n+1+1=n∧¬n+1=n+1+1∧¬n+1+1=n+1:=by omega
 have fr:∀ id,id<n→¬id=n∧¬id=n+1∧¬id=n+1+1∧¬id=n+2:=by intro id _;omega
 have cN:=A.cell
 have cL:=B.cell
 have hbN:∀ y z,bw vN (upd (upd h n y) (n+1) z)=some (.sl 1 (J0a (J1d E))):=fun y z=>A.bw fun id hid=>by simp [fr id hid]
 simp [a305,-J0x,cN,cL,ne]
 first|refine J01 (J28 (J1d E) x) (by first|simp [hbN];done|rfl) ?_|refine J02 (J28 (J1d E) x) (by first|simp [hbN];done|rfl) ?_
 rintro r rfl
 rcases Jq1 (x:=x) (E:=E) with ⟨h1,h2⟩|⟨j,hj,h1,h2⟩
 ·obtain ⟨l,_,hl⟩:=Jfb J1g hx
  have e1:=hl J1g []
  have e2:=hl ⟨1,[]⟩ []
  rw [List.append_nil] at e1 e2
  rw [h2] at e1 e2
  rw [←e1] at e2
  simp [J1g] at e2
 ·rw [h1]
  rw [h2] at hK
  have hj0:¬(j:Int)<0:=by omega
  have hjv:j<(J3h E).length:=by simpa [J3h] using hj
  have hve:(J3h E)[j]=(E[j]).2:=by simp [J3h]
  rcases B with rfl|⟨b,⟨hz,rfl⟩|⟨i,_,hin,rfl,hib⟩⟩
  ·simp [ne,hjv,hj0,hve,J05]
   exact hK _ _ (by omega) (fun id hid=>by simp [fr id hid])
  ·have:E=[]:=by simpa [J3h] using hz
   subst this;simp at hj
  ·have ni:=fr i hin
   simp [ne,hjv,hj0,ni,hib,hve,J05]
   exact hK _ _ (by omega) (fun id hid=>by simp [fr id hid])
theorem Jor (l:List DPattern):Holds Tryz.prog 265 [.sl 4 (l.map J07)] (fun r=>r=i64 (J3p l)):=by
 refine J1l Tryz.func265 rfl rfl fun hl => ?_
 simp at hl
 refine J03 Tryz.func265 a265_ok rfl (by simp [a265]) ?_
 simp [a265]
 generalize hT:J3p l=T
 refine J60 [0] 4 l.length (fun i s=>∃ c:Nat,c≤i∧s 3 = .int .i64 c∧c+J3p (l.drop i)=T) (by first|exact hl|exact hl.1) (by simp) ⟨0,by omega,by simp,by simpa using hT⟩ ?_ ?_
 ·rintro i st h R hi hg hk s4 hw ⟨c,hc,s3,hJ⟩ hh hR _ _
  simp at hk hh
  rw [List.drop_eq_getElem_cons hi] at hJ
  unfold J3p at hJ
  rw [List.filter_cons] at hJ
  have hw2:IntKind.i64.wrap ((c:Int)+1)=(c:Int)+1:=J0r (by unfold LIM at hl;omega)
  cases hc2:(l[i]).Cons
  ·rw [hc2] at hJ
   simp [hk,s4,hi,s3,hw,J07,hc2]
   try intro _
   exact hR _ (by simp [hk]) (by simp) ⟨c,by omega,by simp [s3],by simpa [J3p] using hJ⟩
  ·rw [hc2] at hJ
   simp only [if_true,List.length_cons] at hJ
   simp [hk,s4,hi,s3,hw,hw2,J07,hc2]
   try intro _
   exact hR _ (by simp [hk]) (by simp) ⟨c+1,by omega,by simp,by unfold J3p;omega⟩
 ·rintro st h R hk s4 ⟨c,hc,s3,hJ⟩ hh _ hX
  simp at hk hh
  rw [List.drop_eq_nil_of_le (by omega)] at hJ
  simp [J3p] at hJ
  subst hJ
  simp [hk,s4]
  try intro _
  refine hX _ _ ?_
  simp [hk,s3]
def a202:AFn:= ⟨16,[(.c 5 true 2)],(.seq (.reg [Zo 5 (.box [(.int .i64 0),(.nil 1)])]) (.seq (.reg [Zl 7 false 1 1,Zl 8 false 1 2,Zc 9 203 [.t 7,.t 8],Zo 6 (.box [(.int .i64 0),(.nil 1)]),⟨no,.st 2 (.t 6) (.t 9),no⟩]) (.seq (.reg [Zl 10 false 1 3,Zv 11 0,Zl 12 true 2 6,⟨no,.mput (.t 10) (.t 11) (.t 12),no⟩]) (.seq (.reg [Zl 13 false 1 1,Zo 14 (.bin .add (.t 13) (.k (.int .i64 1))),⟨no,.st 1 (.t 1) (.t 14),no⟩]) (.seq (.reg [Zl 15 true 2 6,⟨no,.st 2 (.t 5) (.t 15),no⟩]) .ret)))))⟩
theorem a202_ok:J06 Tryz.prog Tryz.f202=some a202:=by kernel_rfl
def a204:AFn:= ⟨12,[],(.seq (.reg [Zo 2 (.boxv (.t 0))]) (.draw (.op (Zf 3 0 1) (.op (Zf 4 1 3) (.op (Zl 5 false 1 4) (.op (Zl 6 true 2 2) (.op (Zc 7 86 [.t 6]) (.hop (Zo 8 (.bsl 2 [.t 7])) [(.ld false 1 (.t 4)),(.fld 1 (.t 3)),(.fld 0 (.t 1))] (.hop (Zo 9 (.app 32 2 (.t 5) (.t 8))) [] (.op (Zf 10 0 1) (.op (Zf 11 1 10) (.hop ⟨no,.st 1 (.t 11) (.t 9),no⟩ [] .fin))))))))))))⟩
theorem a204_ok:J06 Tryz.prog Tryz.f204=some a204:=by kernel_rfl
structure Ids where
 m:Nat
 d:Nat
 s:Nat
 x:Nat
def J5q (N:Nat) (vR vP vA:AV):List AV:=[.int .i64 N,vR,vP,vA,.int .i64 0,.nil 1]
def K45 (N:Nat) (I:Ids) (st:MS) (h:Heap) (n:Nat):Prop:=∃ vR vP vA,h I.m=some ⟨true,6,[J5q N vR vP vA]⟩∧J41 I.x 2 (st.rows.map J08) vR h n∧J41 I.x 2 (st.pars.map J08) vP h n ∧
 J41 I.x 1 (st.args.map J1u) vA h n∧(st.args=[]→vA = .nil 1)∧∀ i k j l,vR = .ref i 0 k→vP = .ref j 0 l→i≠j
structure MI (p:DProgram) (r:DRule) (f:DFunction) (N:Nat) (I:Ids) (st:MS) (h:Heap) (n:Nat):Prop where
 hp:h 0=some ⟨true,2,[J00 p]⟩
 hz:h 1=some ⟨true,6,[[.int .i64 0,.nil 2,.nil 2,.nil 1,.int .i64 0,.nil 1]]⟩
 hr:h 2=some ⟨true,7,[J0c r]⟩
 h3:h 3=some ⟨false,1,J0a f.Params⟩
 h4:h 4=some ⟨false,2,f.Pre.map J08⟩
 hf:h 5=some ⟨true,4,[[.str f.Name,.ref 3 0 f.Params.length,.bool f.ListResult,.ref 4 0 f.Pre.length]]⟩
 hn:h 6=some ⟨true,1,[[.int .i64 N]]⟩
 lt:6<I.m∧I.m<I.d∧I.d<I.s∧I.s<I.x∧I.x<n
 hmp:h I.s=some ⟨true,1,[[.mp I.d]]⟩
 hnx:h I.x=some ⟨true,1,[[.int .i64 st.nx]]⟩
 map:Jck I.d st.E h n
 acc:K45 N I st h n
section
variable {p:DProgram}{r:DRule}{f:DFunction}{N:Nat}{I:Ids}{st st':MS}{h h':Heap}{n n':Nat}
theorem K45.frame (A:K45 N I st h n) (hm:I.m<n) (hn:n≤n') (hh:∀ id,id<n→h' id=h id):K45 N I st h' n':=by
 obtain ⟨vR,vP,vA,g1,g2,g3,g4,g6,g5⟩:=A
 exact ⟨vR,vP,vA,by rw [hh _ hm,g1],g2.keep hn fun id _ hid _=>hh id hid,g3.keep hn fun id _ hid _=>hh id hid,g4.keep hn fun id _ hid _=>hh id hid,g6,g5⟩
theorem MI.frame (M:MI p r f N I st h n) (hn:n≤n') (hh:∀ id,id<n→h' id=h id):MI p r f N I st h' n':=by
 obtain ⟨l1,l2,l3,l4,l5⟩:=M.lt
 refine ⟨?_,?_,?_,?_,?_,?_,?_,⟨l1,l2,l3,l4,by omega⟩,?_,?_,M.map.keep (by omega) hn hh,M.acc.frame (by omega) hn hh⟩
 ·rw [hh 0 (by omega),M.hp]
 ·rw [hh 1 (by omega),M.hz]
 ·rw [hh 2 (by omega),M.hr]
 ·rw [hh 3 (by omega),M.h3]
 ·rw [hh 4 (by omega),M.h4]
 ·rw [hh 5 (by omega),M.hf]
 ·rw [hh 6 (by omega),M.hn]
 ·rw [hh I.s (by omega),M.hmp]
 ·rw [hh I.x (by omega),M.hnx]
theorem MI.upd_acc (M:MI p r f N I st h n) (hE:st'.E=st.E) (hx:st'.nx=st.nx) (hn:n≤n') (bad:Nat→Prop) (hbad:∀ id,bad id→I.x<id∧∀ l,h id≠some ⟨false,1,J0m l⟩) (hh:∀ id,id<n→id≠I.m→¬bad id→h' id=h id)
 (hacc:K45 N I st' h' n'):MI p r f N I st' h' n':=by
 obtain ⟨l1,l2,l3,l4,l5⟩:=M.lt
 have low:∀ id,id≤I.x→id≠I.m→h' id=h id:=fun id hid hne=>hh id (by omega) hne fun hb=>by have:=(hbad id hb).1;omega
 refine ⟨?_,?_,?_,?_,?_,?_,?_,⟨l1,l2,l3,l4,by omega⟩,?_,?_,?_,hacc⟩
 ·rw [low 0 (by omega) (by omega),M.hp]
 ·rw [low 1 (by omega) (by omega),M.hz]
 ·rw [low 2 (by omega) (by omega),M.hr]
 ·rw [low 3 (by omega) (by omega),M.h3]
 ·rw [low 4 (by omega) (by omega),M.h4]
 ·rw [low 5 (by omega) (by omega),M.hf]
 ·rw [low 6 (by omega) (by omega),M.hn]
 ·rw [low I.s (by omega) (by omega),M.hmp]
 ·rw [low I.x (by omega) (by omega),M.hnx,hx]
 ·rw [hE]
  obtain ⟨es,h1,h2,h3⟩:=M.map
  refine ⟨es,h1,by rw [low I.d (by omega) (by omega),h2],fun e he=>⟨by have:=(h3 e he).1;omega,?_⟩⟩
  obtain ⟨k1,k2⟩:=h3 e he
  rw [hh e.q k1 (fun g => ?_) fun hb=>(hbad _ hb).2 _ k2,k2]
  obtain ⟨vR,vP,vA,g1,_⟩:=M.acc
  rw [g,g1] at k2
  simp at k2
theorem MI.upd_map (M:MI p r f N I st h n) {x:Str}{l:DLin}{q:Nat}(hE:st'.E=Jnl st.E x l) (hR:st'.rows=st.rows) (hP:st'.pars=st.pars) (hA:st'.args=st.args) (hn:n≤n') (hq:q<n') (hqb:h' q=some ⟨false,1,J0m l.Coeffs⟩)
 (hx':h' I.x=some ⟨true,1,[[.int .i64 st'.nx]]⟩)
 (hh:∀ id,id<n→id≠I.d→id≠I.x→h' id=h id) (hm:∀ es,h I.d=some ⟨true,0,es.map Ent.row⟩→h' I.d=some ⟨true,0,(Jam es x l q).map Ent.row⟩):MI p r f N I st' h' n':=by
 obtain ⟨l1,l2,l3,l4,l5⟩:=M.lt
 refine ⟨?_,?_,?_,?_,?_,?_,?_,⟨l1,l2,l3,l4,by omega⟩,?_,hx',?_,?_⟩
 ·rw [hh 0 (by omega) (by omega) (by omega),M.hp]
 ·rw [hh 1 (by omega) (by omega) (by omega),M.hz]
 ·rw [hh 2 (by omega) (by omega) (by omega),M.hr]
 ·rw [hh 3 (by omega) (by omega) (by omega),M.h3]
 ·rw [hh 4 (by omega) (by omega) (by omega),M.h4]
 ·rw [hh 5 (by omega) (by omega) (by omega),M.hf]
 ·rw [hh 6 (by omega) (by omega) (by omega),M.hn]
 ·rw [hh I.s (by omega) (by omega) (by omega),M.hmp]
 ·obtain ⟨es,h1,h2,h3⟩:=M.map
  refine ⟨Jam es x l q,by rw [Jnf,h1,hE],hm es h2,fun e he => ?_⟩
  rcases Jht he with he|rfl
  ·obtain ⟨k1,k2⟩:=h3 e he
   refine ⟨by omega,?_⟩
   rw [hh e.q k1 (fun g => ?_) (fun g => ?_),k2]
   ·rw [g,h2] at k2;simp at k2
   ·rw [g,M.hnx] at k2;simp at k2
  ·exact ⟨hq,hqb⟩
 ·obtain ⟨vR,vP,vA,g1,g2,g3,g4,g6,g5⟩:=M.acc
  rw [←hR] at g2
  rw [←hP] at g3
  rw [←hA] at g4 g6
  exact ⟨vR,vP,vA,by rw [hh I.m (by omega) (by omega) (by omega),g1],g2.keep hn fun id hb hid _=>hh id hid (by omega) (by omega),g3.keep hn fun id hb hid _=>hh id hid (by omega) (by omega),g4.keep hn fun id hb hid _=>hh id hid (by omega) (by omega),g6,g5⟩
end
def Jj3 (st:MS) (x:Str) (l:DLin) (k:Nat):MS:=⟨Jnl st.E x l,k,st.rows,st.pars,st.args⟩
def Jjy (st:MS) (l:DLin):MS:=⟨st.E,st.nx,st.rows++[l],st.pars,st.args⟩
def Jtd (st:MS) (l:DLin):MS:=⟨st.E,st.nx,st.rows,st.pars++[l],st.args⟩
def Jg9 (st:MS) (l:List DLin):MS:=⟨st.E,st.nx,st.rows,st.pars,st.args++[l]⟩
section
variable {p:DProgram}{r:DRule}{f:DFunction}{N:Nat}{I:Ids}{st:MS}{h:Heap}{n:Nat}{K:AV→Heap→Nat→Prop}
theorem Jcy (M:MI p r f N I st h n) (x:Str) (hx:st.nx≤100000000)
 (hK:∀ q h' n',n≤q→q<n'→(∀ id,id<n→id≠I.d→id≠I.x→h' id=h id)→h' q=some ⟨false,1,J0m (J37 st.nx N).Coeffs⟩→MI p r f N I (Jj3 st x (J37 st.nx N) (st.nx+1)) h' n'→K (Jjp (J37 st.nx N) q) h' n') :
 J2c Tryz.prog 202 [.str x,.ptr I.x 0 0,.ptr 6 0 0,.ptr I.s 0 0] h n K:=by
 obtain ⟨l1,l2,l3,l4,l5⟩:=M.lt
 refine J17 Tryz.func202 a202_ok rfl (by simp [a202]) ?_
 have ne:¬I.x=n∧¬I.x=n+1∧¬I.x=n+1+1∧¬I.d=n∧¬I.d=n+1∧¬I.d=n+1+1∧¬I.s=n∧¬I.s=n+1∧¬I.s=n+1+1∧¬I.d=I.x∧¬I.x=I.d∧¬I.s=I.d∧¬I.s=I.x∧¬6=n∧¬6=n+1∧¬6=n+1+1∧¬n=6∧¬n=5∧¬n=4∧¬5=n∧¬4=n ∧
  ¬n=I.x∧¬n+1=I.x∧¬n+1+1=I.x∧¬n=I.d∧¬n+1=I.d∧¬n+1+1=I.d∧¬n=n+1∧¬n+1=n∧¬n=n+1+1∧¬n+1+1=n∧¬n+1=n+1+1:=by omega
 have hw:IntKind.i64.wrap ((st.nx:Int)+1)=(st.nx:Int)+1:=J0r (by omega)
 obtain ⟨es,hE,hd,hes⟩:=M.map
 simp [a202,M.hnx,M.hn,M.hmp,ne]
 first|refine J01 (Joe st.nx N) (by first|simp;done|rfl) ?_|refine J02 (Joe st.nx N) (by first|simp;done|rfl) ?_
 rintro r rfl
 simp [J08,M.hnx,M.hn,M.hmp,ne,hd,hw]
 refine hK (n+1) _ _ (by omega) (by omega) ?_ ?_ ?_
 ·intro id hid h1 h2
  have:¬id=n∧¬id=n+1∧¬id=n+1+1:=by omega
  simp [this,h1,h2]
 ·simp [ne]
 ·refine M.upd_map (x:=x) (l:=J37 st.nx N) (q:=n+1) rfl rfl rfl rfl (by omega) (by omega) (by simp [ne]) (by simp [ne,Jj3]) ?_ ?_
  ·intro id hid h1 h2
   have:¬id=n∧¬id=n+1∧¬id=n+1+1:=by omega
   simp [this,h1,h2]
  ·intro es' hd'
   rw [hd] at hd'
   simp only [Option.some.injEq,Blk.mk.injEq,true_and] at hd'
   rw [←Jfk,←hd']
   simp [ne,Jjp]
theorem J9w (M:MI p r f N I st h n) {l:DLin}{q:Nat}(hl:l.Coeffs.length≤1048576) (hqn:q<n) (hq:h q=some ⟨false,1,J0m l.Coeffs⟩) (hrl:st.rows.length≤1000000)
 (hK:∀ h' n',n≤n'→(∀ id,id<n→id≠I.m→(∀ l,h id≠some ⟨false,2,l⟩)→h' id=h id)→MI p r f N I (Jjy st l) h' n'→K (.tup []) h' n') :
 J2c Tryz.prog 204 [Jjp l q,.ptr I.m 0 0] h n K:=by
 obtain ⟨l1,l2,l3,l4,l5⟩:=M.lt
 refine J17 Tryz.func204 a204_ok rfl (by simp [a204]) ?_
 have ne:¬I.m=n∧¬I.m=n+1∧¬I.m=n+1+1∧¬I.m=n+1+1+1∧¬I.m=n+2∧¬n=I.m∧¬n+1=I.m∧¬n+1+1=I.m∧¬n+2=I.m∧¬n+1+1+1=I.m∧¬q=n∧¬q=n+1∧¬n=n+1∧¬n+1=n∧¬n=n+1+1∧¬n+1+1=n∧¬n+1=n+1+1∧¬n+2=n+1∧¬n+1=n+2∧¬n+3=I.m∧¬I.m=n+3:=by omega
 obtain ⟨vR,vP,vA,g1,g2,g3,g4,g6,g5⟩:=M.acc
 simp [a204,Jjp,g1,J5q,ne]
 first|refine J01 (J5b l hl) (by first|simp [J05,hq,ne];done|rfl) ?_|refine J02 (J5b l hl) (by first|simp [J05,hq,ne];done|rfl) ?_
 rintro r rfl
 rcases g2 with ⟨hz,rfl⟩|⟨i,hi,hin,rfl,hib⟩
 ·have hz':st.rows=[]:=by simpa using hz
  simp [J08,g1,J5q,ne]
  refine ⟨by unfold LIM;omega,?_⟩
  refine hK _ _ (by omega) ?_ (M.upd_acc (st':=Jjy st l) rfl rfl (by omega) (fun _=>False) (fun _ h=>h.elim) ?_ ?_)
  ·intro id hid hm _
   have:¬id=n∧¬id=n+1∧¬id=n+1+1∧¬id=n+1+1+1:=by omega
   simp [this,hm]
  ·intro id hid hm _
   have:¬id=n∧¬id=n+1∧¬id=n+1+1∧¬id=n+1+1+1:=by omega
   simp [this,hm]
  ·have fr:∀ id,id<n→I.x<id→¬id=n∧¬id=n+1∧¬id=n+1+1∧¬id=n+1+1+1∧¬id=I.m:=by intro id _ _;omega
   refine ⟨.ref (n+3) 0 1,vP,vA,by simp [J5q],.inr ⟨n+3,by omega,by omega,by simp [Jjy,hz'],by simp [Jjy,hz',J08,ne]⟩,g3.keep (by omega) fun id hb hid _=>by simp [fr id hid hb],g4.keep (by omega) fun id hb hid _=>by simp [fr id hid hb],g6,?_⟩
   intro i k j l' e1 e2
   simp only [AV.ref.injEq] at e1
   rcases g3 with ⟨_,e⟩|⟨j',_,hj',e,_⟩
   ·rw [e] at e2;cases e2
   ·rw [e] at e2;simp only [AV.ref.injEq] at e2;omega
 ·have hi1:st.rows.length<1000001:=by omega
  have ni:¬i=n∧¬i=n+1∧¬i=n+1+1∧¬i=n+1+1+1∧¬i=I.m∧¬I.m=i∧¬n=i∧¬n+1=i∧¬n+1+1=i∧¬n+1+1+1=i:=by omega
  simp [J08,g1,J5q,ne,ni,hib]
  refine ⟨by unfold LIM;omega,?_⟩
  refine hK _ _ (by omega) ?_ (M.upd_acc (st':=Jjy st l) rfl rfl (by omega) (fun id=>id=i) (fun id e=>⟨by omega,fun l hl=>by rw [e,hib] at hl;simp at hl⟩) ?_ ?_)
  ·intro id hid hm h2
   have:¬id=n∧¬id=n+1∧¬id=n+1+1∧¬id=n+1+1+1:=by omega
   have hii:¬id=i:=fun e=>h2 _ (by rw [e];exact hib)
   simp [this,hm,hii]
  ·intro id hid hm hii
   have:¬id=n∧¬id=n+1∧¬id=n+1+1∧¬id=n+1+1+1:=by omega
   simp [this,hm,hii]
  ·have fr:∀ id,id<n→I.x<id→¬id=n∧¬id=n+1∧¬id=n+1+1∧¬id=n+1+1+1∧¬id=I.m:=by intro id _ _;omega
   refine ⟨.ref (n+3) 0 (st.rows.length+1),vP,vA,by simp [J5q],.inr ⟨n+3,by omega,by omega,by simp [Jjy],by simp [Jjy,J08,ne,List.take_of_length_le]⟩,g3.keep (by omega) fun id hb hid e => ?_,g4.keep (by omega) fun id hb hid e => ?_,g6,?_⟩
   ·have hii:¬id=i:=fun e'=>g5 i _ id _ rfl e e'.symm
    simp [fr id hid hb,hii]
   ·have hii:¬id=i:=by
     intro e'
     rcases g4 with ⟨_,e2⟩|⟨j',_,_,e2,hjb⟩
     ·rw [e2] at e;cases e
     ·rw [e2] at e;simp only [AV.ref.injEq] at e
      rw [e.1,e',hib] at hjb
      simp at hjb
    simp [fr id hid hb,hii]
   ·intro i' k j l' e1 e2
    simp only [AV.ref.injEq] at e1
    rcases g3 with ⟨_,e⟩|⟨j',_,hj',e,_⟩
    ·rw [e] at e2;cases e2
    ·rw [e] at e2;simp only [AV.ref.injEq] at e2;omega
end
end Go.Proofs.YtoclolkigjbcgaaGreat
