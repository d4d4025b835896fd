/- The models of both ways are one. -/
import Derived.Test.YtilcageplifbgaaGreatKC13
namespace Go.Proofs.YtilcageplifbgaaGreat
set_option linter.all false
open Go Go.RowKit Go.Proofs
theorem nd_dist:∀ {l met:List Str},distFrom met l=true→l.Nodup∧∀ x∈l,x∉met
  | [],_,_=>⟨List.nodup_nil,fun _ h=>by cases h⟩
  | s::l,met,h=>by
    simp only [distFrom,Bool.and_eq_true,Bool.not_eq_true'] at h
    obtain ⟨h1,h2⟩:=nd_dist h.2
    have h3:=hasS_not.1 h.1
    refine ⟨List.nodup_cons.2 ⟨fun hs=>h2 s hs (by simp),h1⟩,?_⟩
    intro x hx
    rcases List.mem_cons.1 hx with rfl | hx
    · exact h3
    · exact fun hm=>h2 x hx (List.mem_append_left _ hm)
def parE (n:Nat):List Str→Nat→SEnv
  | [],_=>[]
  | x::xs,i=>(x,varL i n)::parE n xs (i+1)
def parL (n:Nat):List Str→Nat→List DLin
  | [],_=>[]
  | _::xs,i=>varL i n::parL n xs (i+1)
theorem keys_parE {n:Nat} : ∀ {xs:List Str} {i:Nat},keysE (parE n xs i)=xs
  | [],_=>rfl
  | x::xs,i=>by
    have:=keys_parE (n:=n) (xs:=xs) (i:=i+1)
    unfold keysE at this ⊢
    simp [parE,this]
theorem mem_parE {n:Nat} : ∀ {xs:List Str} {i:Nat} {e:Str×DLin},e∈parE n xs i→∃ j,i≤j∧j<i+xs.length∧e.2=varL j n
  | [],_,_,h=>by cases h
  | x::xs,i,e,h=>by
    rcases List.mem_cons.1 h with rfl | h
    · exact ⟨i,Nat.le_refl _,by simp,rfl⟩
    · obtain ⟨j,h1,h2,h3⟩:=mem_parE h
      exact ⟨j,by omega,by simp; omega,h3⟩
theorem envN_parE {n:Nat} (hn:n≤8) {xs:List Str} (h:xs.length≤n):EnvN n (parE n xs 0):=by
  intro e he
  obtain ⟨j,_,h2,h3⟩:=mem_parE he
  rw [h3]
  exact ⟨varL_len hn (by omega),by omega⟩
theorem parL_eq {n:Nat} {xs:List Str} (h:xs.length≤2):parL n xs 0=(List.range xs.length).map fun i:Nat=>varL i n:=by
  match xs,h with
  | [],_=>rfl
  | [_],_=>simp [parL,List.range_succ]
  | [_,_],_=>simp [parL,List.range_succ]
theorem keys_app (E:SEnv) (x:Str) (l:DLin):keysE (E++[(x,l)])=keysE E++[x]:=by simp [keysE]
theorem par_fold {n:Nat} : ∀ {xs:List Str} {a b:MS},a.E=b.E→a.nx=b.nx→a.pars=b.pars→a.args=b.args→xs.Nodup→(∀ x∈xs,x∉keysE a.E) →
    (xs.foldl (iPar n) a).E=a.E++parE n xs a.nx∧(xs.foldl (sPar n) b).E=a.E++parE n xs a.nx∧(xs.foldl (iPar n) a).nx=a.nx+xs.length∧(xs.foldl (iPar n) a).pars=a.pars++parL n xs a.nx∧(xs.foldl (sPar n) b).pars=a.pars++parL n xs a.nx ∧
    (xs.foldl (iPar n) a).args=a.args∧(xs.foldl (sPar n) b).args=a.args∧(xs.foldl (iPar n) a).rows=a.rows++lrows n xs a.nx∧(xs.foldl (sPar n) b).rows=b.rows
  | [],a,b,h1,h2,h3,h4,_,_=>by simp [parE,parL,lrows,h1,h3,h4]
  | x::xs,a,b,h1,h2,h3,h4,hd,hk=>by
    obtain ⟨hx,hd'⟩:=List.nodup_cons.1 hd
    have he:=eset_new (l:=varL a.nx n) (hk x List.mem_cons_self)
    simp only [List.foldl_cons]
    have ih:=par_fold (n:=n) (xs:=xs) (a:=iPar n a x) (b:=sPar n b x) (by show eset a.E x (varL a.nx n)=b.E++[(x,varL b.nx n)]; rw [he,h1,h2]) (by simp [iPar,sPar,h2]) (by simp [iPar,sPar,h2,h3]) (by simp [iPar,sPar,h4]) hd' (by
      intro y hy
      have:(iPar n a x).E=a.E++[(x,varL a.nx n)]:=he
      rw [this,keys_app]
      intro hm
      rcases List.mem_append.1 hm with hm | hm
      · exact hk y (List.mem_cons_of_mem _ hy) hm
      · simp at hm; subst hm; exact hx hy)
    obtain ⟨g1,g2,g3,g4,g5,g6,g7,g8,g9⟩:=ih
    refine ⟨?_,?_,?_,?_,?_,?_,?_,?_,?_⟩
    · rw [g1]; simp [iPar,he,parE]
    · rw [g2]; simp [iPar,he,parE]
    · rw [g3]; simp [iPar]; omega
    · rw [g4]; simp [iPar,parL]
    · rw [g5]; simp [iPar,parL]
    · rw [g6]; rfl
    · rw [g7]; rfl
    · rw [g8]; simp [iPar,lrows]
    · rw [g9]; rfl
theorem minus_var {n j:Nat} (hn:n≤8) (hj:j<n):(plusL (varL j n) (-1)).getD lin0=minusL (varL j n) 1:=by
  rw [varL_eq hn hj]
  have h1:okLin ⟨0,(List.replicate n 0).set j 1⟩ (((List.replicate n (0:Int)).set j 1).length:Nat)=true:=by
    unfold okLin
    simp only [Bool.and_eq_true,decide_eq_true_eq,List.all_eq_true]
    refine ⟨⟨⟨by simp [inR]; omega,by simp⟩,by decide⟩,?_⟩
    intro y hy
    rcases List.mem_or_eq_of_mem_set hy with hy | rfl
    · rw [(List.mem_replicate.1 hy).2]; decide
    · decide
  unfold plusL minusL
  simp only [h1]
  have h2:addL 0 (-1)=(-1,true):=by decide
  have h3:IntKind.i64.wrap (0 - 1) = -1:=by decide
  simp only [h2,h3]
  simp
theorem pat_fold {n:Nat} (hn:n≤8) {ps:List Str} (hps:ps.length≤n):∀ {qs:List DPattern} {a:MS} {F:SEnv},a.E=parE n ps 0++F→(∀ q∈qs,q.Lst∈ps)→(patN qs).Nodup→(∀ x∈patN qs,x∉keysE a.E)→a.nx+consN qs≤n→EnvN n a.E →
    qs.foldl (iPat n) a=qs.foldl (sPat n) a∧keysE (qs.foldl (sPat n) a).E=keysE a.E++patN qs∧(qs.foldl (sPat n) a).nx=a.nx+consN qs∧EnvN n (qs.foldl (sPat n) a).E
  | [],a,F,_,_,_,_,_,hE=>by simp [patN,consN,hE]
  | q::qs,a,F,hF,hl,hd,hk,hx,hE=>by
    have hq:q.Lst∈keysE (parE n ps 0):=by rw [keys_parE]; exact hl q List.mem_cons_self
    obtain ⟨l,hm,hg⟩:=eget_in lin0 hq
    obtain ⟨j,_,hj,hl2⟩:=mem_parE hm
    simp only at hl2
    have hj':j<n:=by omega
    have hget:∀ d F,eget d (parE n ps 0++F) q.Lst=varL j n:=fun d F=>by rw [hg,hl2]
    simp only [List.foldl_cons]
    cases hc:q.Cons
    · have hpn:patN (q::qs)=patN qs:=by simp [patN,hc]
      have hcn:consN (q::qs)=consN qs:=by simp [consN,hc]
      rw [hpn] at hd hk ⊢
      rw [hcn] at hx ⊢
      have he:iPat n a q=sPat n a q:=by
        unfold iPat sPat
        rw [hc,hF,hget,hget]; rfl
      have hsE:(sPat n a q).E=a.E:=by unfold sPat; rw [hc]; rfl
      have hsx:(sPat n a q).nx=a.nx:=by unfold sPat; rw [hc]; rfl
      rw [he]
      have ih:=pat_fold hn hps (qs:=qs) (a:=sPat n a q) (F:=F) (by rw [hsE,hF]) (fun r hr=>hl r (List.mem_cons_of_mem _ hr)) hd (by rw [hsE]; exact hk) (by rw [hsx]; exact hx) (by rw [hsE]; exact hE)
      rw [hsE,hsx] at ih
      exact ih
    · have hpn:patN (q::qs)=q.Head::q.Tail::patN qs:=by simp [patN,hc]
      have hcn:consN (q::qs)=consN qs+1:=by simp [consN,hc]
      rw [hpn] at hd hk ⊢
      rw [hcn] at hx ⊢
      obtain ⟨d1,hd⟩:=List.nodup_cons.1 hd
      obtain ⟨d2,hd⟩:=List.nodup_cons.1 hd
      simp only [List.mem_cons,not_or] at d1
      have hEh:patE n a q=a.E++[(q.Head,varL a.nx n)]:=eset_new (hk _ List.mem_cons_self)
      have hLI:patL n a q=minusL (varL j n) 1:=by
        unfold patL
        rw [hEh,hF,List.append_assoc,hget]
        exact minus_var hn hj'
      have hLS:sPatL n a q=minusL (varL j n) 1:=by unfold sPatL; rw [hF,hget]
      have hE2:eset (a.E++[(q.Head,varL a.nx n)]) q.Tail (minusL (varL j n) 1)=a.E++[(q.Head,varL a.nx n),(q.Tail,minusL (varL j n) 1)]:=by
        rw [eset_new,List.append_assoc]
        · rfl
        · rw [keys_app]
          intro hm
          rcases List.mem_append.1 hm with hm | hm
          · exact hk q.Tail (by simp) hm
          · simp at hm; exact d1.1 hm.symm
      have he:iPat n a q=sPat n a q:=by
        unfold iPat sPat
        rw [hc,hLI,hLS,hEh,hE2]; rfl
      have hsE:(sPat n a q).E=a.E++[(q.Head,varL a.nx n),(q.Tail,minusL (varL j n) 1)]:=by unfold sPat; rw [hc,hLS]; rfl
      have hsx:(sPat n a q).nx=a.nx+1:=by unfold sPat; rw [hc]; rfl
      have hsk:keysE (sPat n a q).E=keysE a.E++[q.Head,q.Tail]:=by rw [hsE]; simp [keysE]
      rw [he]
      have ih:=pat_fold hn hps (qs:=qs) (a:=sPat n a q) (F:=F++[(q.Head,varL a.nx n),(q.Tail,minusL (varL j n) 1)]) (by rw [hsE,hF,List.append_assoc]) (fun r hr=>hl r (List.mem_cons_of_mem _ hr)) hd (by
        intro x hxm
        rw [hsk]
        intro hm
        rcases List.mem_append.1 hm with hm | hm
        · exact hk x (by simp [hxm]) hm
        · simp at hm
          rcases hm with rfl | rfl
          · exact d1.2 hxm
          · exact d2 hxm) (by rw [hsx]; omega) (by
        rw [hsE]
        intro e he
        rcases List.mem_append.1 he with he | he
        · exact hE e he
        · simp at he
          rcases he with rfl | rfl
          · exact ⟨varL_len hn (by omega),by omega⟩
          · exact ⟨varL_len (i:=j) hn hj',by omega⟩)
      obtain ⟨g1,g2,g3,g4⟩:=ih
      refine ⟨g1,?_,?_,g4⟩
      · rw [g2,hsk,List.append_assoc]; rfl
      · rw [g3,hsx]; omega
def argInK (K:List Str) (a:DArg):Prop:=(∀ s∈a.Heads,∀ t∈s.Terms,t.Name∈K)∧(a.Base≠[]→a.Base∈K)
def callsIn (p:DProgram) (K:List Str):List DCall→Prop
  | []=>True
  | c::cs=>(∀ a∈c.Args,argInK K a)∧((findFn p.Functions c.Func).getD fn0).ListResult=listName c.Bind∧c.Bind∉K∧callsIn p (K++[c.Bind]) cs
theorem call_fold {p:DProgram} {n:Nat} (hn:n≤8):∀ {cs:List DCall} {a:MS},callsIn p (keysE a.E) cs→a.nx+cs.length≤n→EnvN n a.E →
    cs.foldl (iCall p n) a=cs.foldl (sCall n) a∧keysE (cs.foldl (sCall n) a).E=keysE a.E++cs.map (·.Bind)∧EnvN n (cs.foldl (sCall n) a).E
  | [],a,_,_,hE=>by simp [hE]
  | c::cs,a,h,hx,hE=>by
    obtain ⟨h1,h2,h3,h4⟩:=h
    simp only [List.length_cons] at hx
    simp only [List.foldl_cons]
    have hb:eset a.E c.Bind (varL a.nx n)=a.E++[(c.Bind,varL a.nx n)]:=eset_new h3
    have ha:c.Args.map (argI a.E n)=c.Args.map (argS a.E n):=List.map_congr_left fun x hx=>arg_eq hE (h1 x hx)
    have he:iCall p n a c=sCall n a c:=by
      unfold iCall sCall
      rw [hb,ha,h2]
    have hsE:(sCall n a c).E=a.E++[(c.Bind,varL a.nx n)]:=rfl
    rw [he]
    have ih:=call_fold (p:=p) hn (cs:=cs) (a:=sCall n a c) (by rw [hsE,keys_app]; exact h4) (by show a.nx+1+_≤_; omega) (by
      rw [hsE]
      intro e he
      rcases List.mem_append.1 he with he | he
      · exact hE e he
      · simp at he; subst he; exact ⟨varL_len hn (by omega),by omega⟩)
    obtain ⟨g1,g2,g3⟩:=ih
    refine ⟨g1,?_,g3⟩
    rw [g2,hsE,keys_app]; simp
theorem argOk_in {a:DArg} {b:Bool} {K:List Str} (h:argOk a b K=true):argInK K a:=by
  unfold argOk at h
  simp only [Bool.and_eq_true] at h
  have h2:=h.2
  rw [allS_snames] at h2
  unfold allS at h2
  rw [List.all_eq_true] at h2
  have hs:∀ (l:List DSum) (s:DSum),s∈l→∀ t∈s.Terms,t.Name∈sumsN l:=by
    intro l
    induction l with
    | nil=>intro s hs; cases hs
    | cons x l ih=>
      intro s hs t ht
      simp only [sumsN]
      rcases List.mem_cons.1 hs with rfl | hs
      · exact List.mem_append_left _ (List.mem_map.2 ⟨t,ht,rfl⟩)
      · exact List.mem_append_right _ (ih s hs t ht)
  refine ⟨fun s hs' t ht=>hasS_iff.1 (h2 _ ?_),fun hb=>hasS_iff.1 (h2 _ ?_)⟩
  · exact List.mem_append_left _ (hs _ s hs' t ht)
  · refine List.mem_append_right _ ?_
    rw [if_neg hb]; exact List.mem_cons_self
theorem argsOk_all {K:List Str} : ∀ {l:List DArg} {m:List Str},argsOk K l m=true→l.length=m.length→∀ a∈l,∃ b,argOk a b K=true
  | [],_,_,_,_,h=>by cases h
  | a::l,[],_,hl,_,_=>by simp at hl
  | a::l,s::m,h,hl,x,hx=>by
    simp only [argsOk,Bool.and_eq_true] at h
    rcases List.mem_cons.1 hx with rfl | hx
    · exact ⟨_,h.1⟩
    · exact argsOk_all h.2 (by simpa using hl) x hx
theorem callB_in {p:DProgram} {c:DCall} {K:List Str} (h:callB p c K=true):(∀ a∈c.Args,∃ b,argOk a b K=true)∧((findFn p.Functions c.Func).getD fn0).ListResult=listName c.Bind:=by
  unfold callB at h
  simp only [Bool.and_eq_true,decide_eq_true_eq] at h
  obtain ⟨⟨⟨_,h1⟩,h2⟩,h3⟩:=h
  refine ⟨argsOk_all h3 h1,?_⟩
  cases hr:((findFn p.Functions c.Func).getD fn0).ListResult
  · rw [hr] at h2
    simp only [Bool.false_eq_true,if_false,intName,Bool.and_eq_true,Bool.not_eq_true'] at h2
    exact h2.2.symm
  · rw [hr] at h2
    simp only [if_true] at h2
    exact h2.symm
theorem scope_at {p:DProgram} {r:DRule} {f:DFunction} (hf:findFn p.Functions r.Func=some f) {k:Nat} (hk:k≤r.Calls.length):scopeOf p r k=f.Params++patN r.Patterns++(r.Calls.take k).map (·.Bind):=by
  unfold scopeOf
  rw [hf]
  rw [if_pos (by simp [inR]; omega)]; simp
theorem callsFrom_in {p:DProgram} {r:DRule} {f:DFunction} (hf:findFn p.Functions r.Func=some f) (hd:(f.Params++patN r.Patterns++r.Calls.map (·.Bind)).Nodup) :
    ∀ {m k:Nat},k+m=r.Calls.length→callsFrom p r k (r.Calls.drop k)=true→callsIn p (scopeOf p r k) (r.Calls.drop k)
  | 0,k,hm,_=>by rw [List.drop_eq_nil_of_le (by omega)]; trivial
  | m+1,k,hm,h=>by
    have hk:k<r.Calls.length:=by omega
    have hsk:scopeOf p r (k+1:Nat)=scopeOf p r k++[(r.Calls[k]).Bind]:=by
      rw [scope_at hf (by omega),scope_at hf (by omega),List.take_succ_eq_append_getElem hk,List.map_append,←List.append_assoc]; rfl
    rw [List.drop_eq_getElem_cons hk] at h ⊢
    simp only [callsFrom,Bool.and_eq_true] at h
    obtain ⟨g1,g2⟩:=callB_in h.1
    refine ⟨fun a ha => ?_,g2,?_,?_⟩
    · obtain ⟨b,hb⟩:=g1 a ha
      exact argOk_in hb
    · rw [scope_at hf (by omega)]
      intro hmem
      have hsub:(f.Params++patN r.Patterns++(r.Calls.take k).map (·.Bind)++[(r.Calls[k]).Bind]).Nodup:=by
        refine hd.sublist ?_
        rw [List.append_assoc]
        refine List.Sublist.append_left ?_ _
        have:(r.Calls.take k).map (·.Bind)++[(r.Calls[k]).Bind]=(r.Calls.take (k+1)).map (·.Bind):=by rw [List.take_succ_eq_append_getElem hk,List.map_append]; rfl
        rw [this]
        exact (List.take_sublist _ _).map _
      rw [List.nodup_append] at hsub
      exact hsub.2.2 _ hmem _ (by simp) rfl
    · rw [←hsk]
      exact callsFrom_in hf hd (m:=m) (by omega) h.2
theorem pats_in {ps:List Str} : ∀ {qs:List DPattern} {met:List Str},patsFrom ps met qs=true→(∀ q∈qs,q.Lst∈ps)∧(qs.map (·.Lst)).Nodup∧∀ q∈qs,q.Lst∉met
  | [],_,_=>by simp
  | q::qs,met,h=>by
    simp only [patsFrom,Bool.and_eq_true,Bool.not_eq_true'] at h
    obtain ⟨⟨h1,h2⟩,h3⟩:=h
    obtain ⟨g1,g2,g3⟩:=pats_in h3
    unfold patB at h1
    simp only [Bool.and_eq_true] at h1
    have h1':=hasS_iff.1 h1.1.1
    have h2':=hasS_not.1 h2
    refine ⟨?_,?_,?_⟩
    · intro x hx
      rcases List.mem_cons.1 hx with rfl | hx
      · exact h1'
      · exact g1 x hx
    · rw [List.map_cons,List.nodup_cons]
      refine ⟨?_,g2⟩
      intro hm
      obtain ⟨y,hy,he⟩:=List.mem_map.1 hm
      exact g3 y hy (by rw [he]; simp)
    · intro x hx
      rcases List.mem_cons.1 hx with rfl | hx
      · exact h2'
      · exact fun hm=>g3 x hx (List.mem_append_left _ hm)
theorem fn_in {p:DProgram} {name:Str} {f:DFunction} (hp:progOk p=true) (hf:findFn p.Functions name=some f):f.Params.length≤2∧f.Params.Nodup∧(∀ l∈f.Pre,okLin l f.Params.length=true)∧f.Pre.length≤2:=by
  unfold progOk at hp
  simp only [Bool.and_eq_true,fnsFrom_eq,List.all_eq_true] at hp
  have:=hp.1.1.2.1 f (List.mem_of_find?_eq_some hf)
  unfold fnOk distB at this
  simp only [Bool.and_eq_true,decide_eq_true_eq,List.all_eq_true] at this
  obtain ⟨⟨⟨⟨_,h2⟩,_,h3⟩,h4⟩,h5⟩:=this
  exact ⟨h2,(nd_dist h3).1,h5,h4⟩
structure RuleIn (p:DProgram) (r:DRule) (f:DFunction):Prop where
  par:f.Params.length≤2
  pre:∀ l∈f.Pre,okLin l f.Params.length=true
  npre:f.Pre.length≤2
  pats:∀ q∈r.Patterns,q.Lst∈f.Params
  npats:r.Patterns.length≤f.Params.length
  nd:(f.Params++patN r.Patterns++r.Calls.map (·.Bind)).Nodup
  ncalls:r.Calls.length≤2
  nguards:r.Guards.length≤2
  guards:∀ g∈r.Guards,guardOk (f.Params++patN r.Patterns) g=true
  calls:callsFrom p r 0 r.Calls=true
  res:argOk r.Result f.ListResult (f.Params++patN r.Patterns++r.Calls.map (·.Bind))=true
theorem rule_in {p:DProgram} {r:DRule} (hp:progOk p=true) (hr:r∈p.Rules):∃ f,findFn p.Functions r.Func=some f∧RuleIn p r f:=by
  have hp':=hp
  unfold progOk at hp'
  simp only [Bool.and_eq_true,List.all_eq_true] at hp'
  have h:=hp'.2 r hr
  unfold ruleOk at h
  simp only [Bool.and_eq_true,decide_eq_true_eq] at h
  obtain ⟨⟨⟨⟨⟨⟨⟨g1,g2⟩,g3⟩,g4⟩,g5⟩,g6⟩,g7⟩,g8⟩:=h
  obtain ⟨f,hf⟩:=Option.isSome_iff_exists.1 g1
  rw [hf] at g2 g7
  simp only [Option.getD_some] at g2 g7
  obtain ⟨k1,k2,k3,k4⟩:=fn_in hp hf
  obtain ⟨q1,q2,_⟩:=pats_in g2
  have hs0:=scope_at (p:=p) (r:=r) hf (k:=0) (Nat.zero_le _)
  have hsa:=scope_at (p:=p) (r:=r) hf (k:=r.Calls.length) (Nat.le_refl _)
  rw [List.take_length] at hsa
  simp only [List.take_zero,List.map_nil,List.append_nil] at hs0
  rw [hsa] at g7 g8
  rw [show ((0:Nat):Int)=0 from rfl] at hs0
  rw [hs0,List.all_eq_true] at g4
  refine ⟨f,hf,k1,k3,k4,q1,?_,(nd_dist g8).1,g5,g3,g4,g6,g7⟩
  have:=nodup_len q2 (N:=f.Params) (by
    intro x hx
    obtain ⟨q,hq,rfl⟩:=List.mem_map.1 hx
    exact q1 q hq)
  simpa using this
theorem consN_le (l:List DPattern):consN l≤l.length:=List.length_filter_le _ _
theorem RuleIn.size {p:DProgram} {r:DRule} {f:DFunction} (R:RuleIn p r f):sizeN r f≤6:=by
  have:=consN_le r.Patterns
  have:=R.par; have:=R.npats; have:=R.ncalls
  unfold sizeN; omega
theorem model_eq {p:DProgram} {r:DRule} {f:DFunction} (hf:findFn p.Functions r.Func=some f) (R:RuleIn p r f):modelI p r f=some (modelS r f):=by
  have h6:=R.size
  have hn:sizeN r f≤8:=by omega
  have hpn:f.Params.length≤sizeN r f:=by unfold sizeN; omega
  have hd:=R.nd
  rw [List.append_assoc,List.nodup_append] at hd
  obtain ⟨hd1,hd2,hd3⟩:=hd
  rw [List.nodup_append] at hd2
  obtain ⟨hd4,hd5,hd6⟩:=hd2
  obtain ⟨a1,a2,a3,a4,a5,a6,a7,a8,a9⟩:=par_fold (n:=sizeN r f) (xs:=f.Params) (a:=⟨[],0,[],[],[]⟩) (b:=⟨[],0,domL f (sizeN r f),[],[]⟩) rfl rfl rfl rfl hd1 (by simp [keysE])
  simp only [List.nil_append,Nat.zero_add] at a1 a2 a3 a4 a5 a6 a7 a8 a9
  have hpre:preI (st1 r f).pars (sizeN r f) f.Pre=some (f.Pre.map (widen (sizeN r f))):=by
    refine preI_eq fun l hl => ?_
    unfold st1
    rw [a4,parL_eq R.par]
    exact place_var R.par hpn hn (R.pre l hl)
  unfold modelI modelS
  rw [hpre]
  simp only
  have e1:(⟨(st1 r f).E,(st1 r f).nx,(st1 r f).rows++f.Pre.map (widen (sizeN r f)),(st1 r f).pars,(st1 r f).args⟩:MS)=atNx (ss1 r f) f.Params.length:=by
    unfold st1 ss1 atNx
    rw [a1,a2,a3,a4,a5,a6,a7,a8,a9]; rfl
  have b0:(atNx (ss1 r f) f.Params.length).E=parE (sizeN r f) f.Params 0++[]:=by rw [List.append_nil]; exact a2
  have b1:keysE (atNx (ss1 r f) f.Params.length).E=f.Params:=by rw [b0,List.append_nil,keys_parE]
  have b2:EnvN (sizeN r f) (atNx (ss1 r f) f.Params.length).E:=by rw [b0,List.append_nil]; exact envN_parE hn hpn
  obtain ⟨c1,c2,c3,c4⟩:=pat_fold hn hpn (qs:=r.Patterns) (a:=atNx (ss1 r f) f.Params.length) b0 R.pats hd4 (by
    rw [b1]; intro x hx hm; exact hd3 x hm x (List.mem_append_left _ hx) rfl) (by show f.Params.length+consN r.Patterns≤sizeN r f; unfold sizeN; omega) b2
  rw [b1] at c2
  have e3:st3 r f (f.Pre.map (widen (sizeN r f)))=ss3 r f:=by unfold st3 ss3; rw [e1,c1]
  have hg:r.Guards.map (sumI (ss3 r f).E (sizeN r f))=r.Guards.map (sumS (ss3 r f).E (sizeN r f)):=by
    refine List.map_congr_left fun g hg=>sum_eq c4 fun t ht => ?_
    have:=R.guards g hg
    unfold guardOk allS at this
    simp only [Bool.and_eq_true,List.all_eq_true] at this
    have:=hasS_iff.1 (this.2 t.Name (List.mem_map.2 ⟨t,ht,rfl⟩))
    show t.Name∈keysE (ss3 r f).E
    unfold ss3; rw [c2]; exact this
  have e4:withRows (ss3 r f) (r.Guards.map (sumI (ss3 r f).E (sizeN r f)))=withRows (atNx (ss3 r f) (f.Params.length+consN r.Patterns)) (r.Guards.map (sumS (ss3 r f).E (sizeN r f))):=by
    rw [hg]
    unfold withRows atNx
    have:(ss3 r f).nx=f.Params.length+consN r.Patterns:=c3
    rw [this]
  have hk0:keysE (withRows (atNx (ss3 r f) (f.Params.length+consN r.Patterns)) (r.Guards.map (sumS (ss3 r f).E (sizeN r f)))).E=f.Params++patN r.Patterns:=c2
  have hci:=callsFrom_in (p:=p) (r:=r) hf R.nd (m:=r.Calls.length) (k:=0) (by omega) R.calls
  have hs0:=scope_at (p:=p) (r:=r) hf (k:=0) (Nat.zero_le _)
  simp only [List.take_zero,List.map_nil,List.append_nil] at hs0
  rw [hs0,List.drop_zero] at hci
  obtain ⟨d1,d2,d3⟩:=call_fold (p:=p) hn (cs:=r.Calls) (a:=withRows (atNx (ss3 r f) (f.Params.length+consN r.Patterns)) (r.Guards.map (sumS (ss3 r f).E (sizeN r f)))) (by rw [hk0]; exact hci) (by
    show f.Params.length+consN r.Patterns+r.Calls.length≤sizeN r f; unfold sizeN; omega) c4
  have e5:st5 p r f (f.Pre.map (widen (sizeN r f)))=ss5 r f:=by unfold st5 ss5; rw [e3,e4,d1]
  rw [e5]
  have er:argI (ss5 r f).E (sizeN r f) r.Result=argS (ss5 r f).E (sizeN r f) r.Result:=by
    refine arg_eq d3 ?_
    have h1:=argOk_in R.res
    have h2:keysE (ss5 r f).E=f.Params++patN r.Patterns++r.Calls.map (·.Bind):=by unfold ss5; rw [d2,hk0]
    rw [←h2] at h1
    exact h1
  rw [er]
end Go.Proofs.YtilcageplifbgaaGreat

namespace Go.Proofs.YtilcageplifbgaaGreat
set_option linter.all false
open Go Go.RowKit Go.Proofs
def a105:AFn:=
⟨34,[(.c 6 true 2)],(.seq
 (.reg [⟨some 4,(.boxv (.t 1)),no⟩,⟨some 6,(.box [(.int .i64 0),(.nil 1)]),no⟩]) (.seq
 (.reg [⟨some 10,(.fld 0 (.t 4)),no⟩,⟨some 11,(.ld false 1 (.t 10)),no⟩,⟨some 12,(.mv (.t 2)),no⟩,⟨some 13,(.call (.k (.fn (.func 103) [] [])) [(.t 11),(.t 12)]),no⟩,⟨some 7,(.box [(.int .i64 0),(.nil 1)]),no⟩,⟨no,(.st 2 (.t 7) (.t 13)),no⟩]) (.seq (.seq
 (.reg [⟨some 14,(.fld 1 (.t 4)),no⟩,⟨some 15,(.ld false 1 (.t 14)),no⟩,⟨some 16,(.len false (.t 15)),no⟩,⟨some 17,(.mv (.k (.int .i64 0))),no⟩]) (.blk 0 (.loop (.seq
 (.reg [⟨some 18,(.bin .lss (.t 17) (.t 16)),no⟩]) (.seq (.cond (.t 18) .skip (.exit 0)) (.seq (.blk 1 (.seq
 (.reg [⟨some 19,(.ixa 2 (.t 15) (.t 17)),no⟩,⟨some 20,(.ld true 2 (.t 19)),no⟩,⟨some 9,(.box [(.int .i64 0),(.str [])]),no⟩,⟨no,(.st 2 (.t 9) (.t 20)),no⟩])
 (.reg [⟨some 22,(.ld true 2 (.t 7)),no⟩,⟨some 23,(.fld 0 (.t 9)),no⟩,⟨some 24,(.ld false 1 (.t 23)),no⟩,⟨some 25,(.mv (.t 0)),no⟩,⟨some 26,(.fld 1 (.t 9)),no⟩,⟨some 27,(.ld false 1 (.t 26)),no⟩,⟨some 28,(.mget (.agg [(.int .i64 0),(.nil 1)]) (.t 25) (.t 27)),no⟩,⟨some 29,(.call (.k (.fn (.func 102) [] [])) [(.t 22),(.t 24),(.t 28)]),no⟩,⟨some 21,(.mv (.t 29)),no⟩,⟨some 30,(.ext (.t 21) 0),no⟩,⟨some 31,(.ext (.t 21) 1),no⟩,⟨no,(.st 2 (.t 7) (.t 30)),no⟩])))
 (.reg [⟨some 32,(.bin .add (.t 17) (.k (.int .i64 1))),no⟩,⟨some 17,(.mv (.t 32)),no⟩]))))))) (.seq
 (.reg [⟨some 33,(.ld true 2 (.t 7)),no⟩,⟨no,(.st 2 (.t 6) (.t 33)),no⟩]) .ret))))⟩
theorem a105_ok:compFn Tryz.prog Tryz.f105=some a105:=by kernel_rfl
def a106:AFn:=
⟨36,[(.c 6 true 2)],(.seq
 (.reg [⟨some 4,(.boxv (.t 1)),no⟩,⟨some 6,(.box [(.int .i64 0),(.nil 1)]),no⟩]) (.seq (.seq
 (.reg [⟨some 8,(.fld 0 (.t 4)),no⟩,⟨some 9,(.ld false 1 (.t 8)),no⟩,⟨some 10,(.un .not (.t 9)),no⟩]) (.cond (.t 10) (.seq
 (.reg [⟨some 11,(.mv (.t 0)),no⟩,⟨some 12,(.fld 1 (.t 4)),no⟩,⟨some 13,(.ld false 1 (.t 12)),no⟩,⟨some 14,(.ixa 2 (.t 13) (.k (.int .i64 0))),no⟩,⟨some 15,(.ld true 2 (.t 14)),no⟩,⟨some 16,(.mv (.t 2)),no⟩,⟨some 17,(.call (.k (.fn (.func 105) [] [])) [(.t 11),(.t 15),(.t 16)]),no⟩,⟨no,(.st 2 (.t 6) (.t 17)),no⟩]) .ret) .skip)) (.seq
 (.reg [⟨some 18,(.fld 1 (.t 4)),no⟩,⟨some 19,(.ld false 1 (.t 18)),no⟩,⟨some 20,(.len false (.t 19)),no⟩,⟨some 21,(.mv (.t 2)),no⟩,⟨some 22,(.call (.k (.fn (.func 103) [] [])) [(.t 20),(.t 21)]),no⟩,⟨some 7,(.box [(.int .i64 0),(.nil 1)]),no⟩,⟨no,(.st 2 (.t 7) (.t 22)),no⟩]) (.seq (.seq
 (.reg [⟨some 23,(.fld 2 (.t 4)),no⟩,⟨some 24,(.ld false 1 (.t 23)),no⟩,⟨some 25,(.bin .neq (.t 24) (.k (.str []))),no⟩]) (.cond (.t 25)
 (.reg [⟨some 27,(.ld true 2 (.t 7)),no⟩,⟨some 28,(.mv (.t 0)),no⟩,⟨some 29,(.fld 2 (.t 4)),no⟩,⟨some 30,(.ld false 1 (.t 29)),no⟩,⟨some 31,(.mget (.agg [(.int .i64 0),(.nil 1)]) (.t 28) (.t 30)),no⟩,⟨some 32,(.call (.k (.fn (.func 102) [] [])) [(.t 27),(.k (.int .i64 1)),(.t 31)]),no⟩,⟨some 26,(.mv (.t 32)),no⟩,⟨some 33,(.ext (.t 26) 0),no⟩,⟨some 34,(.ext (.t 26) 1),no⟩,⟨no,(.st 2 (.t 7) (.t 33)),no⟩]) .skip)) (.seq
 (.reg [⟨some 35,(.ld true 2 (.t 7)),no⟩,⟨no,(.st 2 (.t 6) (.t 35)),no⟩]) .ret)))))⟩
theorem a106_ok:compFn Tryz.prog Tryz.f106=some a106:=by kernel_rfl
theorem acall_ext {P:Program} {f:FuncId} {xs:List AV} {h:Heap} {n:Nat} {K:AV→Heap→Nat→Prop}
    (hA:ACall P f xs h n fun r h' n'=>(∀ id,id<n→h' id=h id)∧K r h' n'):ACall P f xs h n (hK h K):=by
  refine ⟨hA.1,fun base w0 w L F vs H hv => ?_⟩
  refine (hA.2 base w0 w L F vs H hv).mono ?_
  rintro e w' ⟨v,r,L',n',F',h',rfl,H',hx,hr,hh,hk⟩
  refine ⟨v,r,L',n',F',h',rfl,H',hx,hr,fun id B hB => ?_,hk⟩
  have hlt:id<n:=by
    cases hl:L id with
    | none=>rw [H.mod id hl] at hB; cases hB
    | some l=>exact H.lt id l hl
  rw [hh id hlt]; exact hB
def linV (l:DLin) (q:Nat):AV := .agg [i64 l.Const,.ref q 0 l.Coeffs.length]
structure Ent where
  k:Str
  l:DLin
  q:Nat
def Ent.row (e:Ent):List AV:=[.str e.k,linV e.l e.q]
def entsE (es:List Ent):SEnv:=es.map fun e=>(e.k,e.l)
def setEnt:List Ent→Str→DLin→Nat→List Ent
  | [],k,l,q=>[⟨k,l,q⟩]
  | e::es,k,l,q=>if e.k=k then ⟨k,l,q⟩::es else e::setEnt es k l q
theorem setEnt_E {k:Str} {l:DLin} {q:Nat} : ∀ {es:List Ent},entsE (setEnt es k l q)=eset (entsE es) k l
  | []=>rfl
  | e::es=>by
    have ih:=setEnt_E (k:=k) (l:=l) (q:=q) (es:=es)
    simp only [setEnt,entsE,List.map_cons,eset] at ih ⊢
    split
    · rfl
    · rw [List.map_cons,ih]
theorem mset_ents {k:Str} {l:DLin} {q:Nat} : ∀ {es:List Ent},mset (es.map Ent.row) k (linV l q)=(setEnt es k l q).map Ent.row
  | []=>rfl
  | e::es=>by
    have ih:=mset_ents (k:=k) (l:=l) (q:=q) (es:=es)
    simp only [List.map_cons,Ent.row,mset,setEnt] at ih ⊢
    split
    · rfl
    · simp only [List.map_cons,Ent.row,List.cons.injEq,true_and]; exact ih
theorem setEnt_mem {k:Str} {l:DLin} {q:Nat} : ∀ {es:List Ent} {e:Ent},e∈setEnt es k l q→e∈es∨e=⟨k,l,q⟩
  | [],e,h=>by simp [setEnt] at h; exact .inr h
  | a::es,e,h=>by
    simp only [setEnt] at h
    split at h
    · rcases List.mem_cons.1 h with h | h
      · exact .inr h
      · exact .inl (List.mem_cons_of_mem _ h)
    · rcases List.mem_cons.1 h with rfl | h
      · exact .inl List.mem_cons_self
      · rcases setEnt_mem h with h | h
        · exact .inl (List.mem_cons_of_mem _ h)
        · exact .inr h
theorem mfind_ents {k:Str} : ∀ {es:List Ent},(mfind (es.map Ent.row) k=Option.none∧∀ d,eget d (entsE es) k=d)∨∃ e∈es,mfind (es.map Ent.row) k=some (linV e.l e.q)∧∀ d,eget d (entsE es) k=e.l
  | [] => .inl ⟨rfl,fun _=>rfl⟩
  | a::es=>by
    simp only [List.map_cons,Ent.row,mfind,entsE,eget,List.find?_cons]
    by_cases h:a.k=k
    · exact .inr ⟨a,List.mem_cons_self,by rw [if_pos h],fun d=>by simp [h]⟩
    · rw [if_neg h]
      have hb:(a.k==k)=false:=by simpa using h
      rcases mfind_ents (k:=k) (es:=es) with ⟨h1,h2⟩ | ⟨e,he,h1,h2⟩
      · exact .inl ⟨h1,fun d=>by rw [hb]; exact h2 d⟩
      · exact .inr ⟨e,List.mem_cons_of_mem _ he,h1,fun d=>by rw [hb]; exact h2 d⟩
def MapIs (d:Nat) (E:SEnv) (h:Heap) (n:Nat):Prop:=∃ es:List Ent,entsE es=E∧h d=some ⟨true,0,es.map Ent.row⟩∧∀ e∈es,e.q<n∧h e.q=some ⟨false,1,intsR e.l.Coeffs⟩
theorem MapIs.keep {d:Nat} {E:SEnv} {h h':Heap} {n n':Nat} (M:MapIs d E h n) (hd:d<n) (hn:n≤n') (hh:∀ id,id<n→h' id=h id):MapIs d E h' n':=by
  obtain ⟨es,h1,h2,h3⟩:=M
  exact ⟨es,h1,by rw [hh d hd,h2],fun e he=>⟨by have:=(h3 e he).1; omega,by rw [hh _ (h3 e he).1]; exact (h3 e he).2⟩⟩
theorem MapIs.get {d:Nat} {E:SEnv} {h:Heap} {n:Nat} (M:MapIs d E h n) (x:Str):∃ rows w,h d=some ⟨true,0,rows⟩∧(mfind rows x).getD (.agg [.int .i64 0,.nil 1]) = .agg [.int .i64 (eget lin0 E x).Const,w]∧bw w h=some (.sl 1 (intsR (eget lin0 E x).Coeffs)):=by
  obtain ⟨es,rfl,h2,h3⟩:=M
  refine ⟨es.map Ent.row,?_⟩
  rcases mfind_ents (k:=x) (es:=es) with ⟨g1,g2⟩ | ⟨e,he,g1,g2⟩
  · exact ⟨.nil 1,h2,by rw [g1,g2]; rfl,by rw [g2]; rfl⟩
  · refine ⟨.ref e.q 0 e.l.Coeffs.length,h2,by rw [g1,g2]; rfl,?_⟩
    rw [g2]
    simp [bw,(h3 e he).2]
theorem MapIs.get2 {d:Nat} {E:SEnv} {h:Heap} {n:Nat} (M:MapIs d E h n) (x:Str):∃ rows w,h d=some ⟨true,0,rows⟩∧(mfind rows x).getD (.agg [.int .i64 0,.nil 1]) = .agg [.int .i64 (eget lin0 E x).Const,w] ∧
    ((w = .nil 1∧(eget lin0 E x).Coeffs=[])∨∃ q,q<n∧w = .ref q 0 (eget lin0 E x).Coeffs.length∧h q=some ⟨false,1,intsR (eget lin0 E x).Coeffs⟩):=by
  obtain ⟨es,rfl,h2,h3⟩:=M
  refine ⟨es.map Ent.row,?_⟩
  rcases mfind_ents (k:=x) (es:=es) with ⟨g1,g2⟩ | ⟨e,he,g1,g2⟩
  · exact ⟨.nil 1,h2,by rw [g1,g2]; rfl,.inl ⟨rfl,by rw [g2]; rfl⟩⟩
  · refine ⟨.ref e.q 0 e.l.Coeffs.length,h2,by rw [g1,g2]; rfl,.inr ⟨e.q,(h3 e he).1,by rw [g2],by rw [g2]; exact (h3 e he).2⟩⟩
set_option maxRecDepth 20000
set_option maxHeartbeats 2000000
theorem call_sumSize {d:Nat} {E:SEnv} {h:Heap} {n N:Nat} {s:DSum} (hs:s.Terms.length≤1048576) (M:MapIs d E h n) (hd:d<n) {K:AV→Heap→Nat→Prop}
    (hK:∀ q h' n',n≤q→q<n'→(∀ id,id<n→h' id=h id)→h' q=some ⟨false,1,intsR (sumI E N s).Coeffs⟩→K (linV (sumI E N s) q) h' n') :
    ACall Tryz.prog 105 [.mp d,.agg (rASum s),i64 N] h n K:=by
  refine acall_body Tryz.func105 a105_ok rfl (by simp [a105]) ?_
  have z0:¬n=n+1:=by omega
  have z1:¬n+1=n:=by omega
  have z2:¬n=n+1+1:=by omega
  have z3:¬n=n+1+1+1:=by omega
  have z4:¬n+1=n+1+1:=by omega
  have z5:¬n+1=n+1+1+1:=by omega
  have z6:¬n+1+1=n:=by omega
  have z7:¬n+1+1+1=n:=by omega
  simp [a105,rASum]
  first | refine callD_of (k_ConstLin s.Const N) (by simp) ?_ | refine call_of (k_ConstLin s.Const N) (by simp) ?_ | refine callD_of (k_ConstLin s.Const N) rfl ?_ | refine call_of (k_ConstLin s.Const N) rfl ?_
  rintro r rfl
  simp [rULin,rASum,z0,z1,z2,z3,z4,z5,z6,z7]
  intro _
  unfold sumI at hK
  generalize hT:s.Terms.foldl (fun o t=>addS o t.Coeff (eget lin0 E t.Name)) (constLin s.Const N)=T at hK
  refine rL_forO [0,2,4,6,7,15,16] 17 s.Terms.length (fun i st h' m=>n+3<m∧(∀ id,id<n→h' id=h id)∧h' n=some ⟨true,2,[[.int .i64 s.Const,.sl 2 (s.Terms.map rATerm)]]⟩∧h' (n+1)=some ⟨true,2,[[.int .i64 0,.nil 1]]⟩ ∧
      ∃ (o:DLin) (q:Nat),h' (n+3)=some ⟨true,2,[[.int .i64 o.Const,.ref q 0 o.Coeffs.length]]⟩∧h' q=some ⟨false,1,intsR o.Coeffs⟩∧(q=n+2∨n+3<q)∧q<m∧(s.Terms.drop i).foldl (fun o t=>addS o t.Coeff (eget lin0 E t.Name)) o=T) (by unfold LIM; omega) (by simp) ?_ ?_ ?_
  · refine ⟨by omega,?_,by simp [z0,z1,z2,z3,z4,z5,z6,z7],by simp [z0,z1,z2,z3,z4,z5,z6,z7],constLin s.Const N,n+2,by simp [z0,z1,z2,z3,z4,z5,z6,z7],by simp,.inl rfl,by omega,hT⟩
    intro id hid
    have y0:¬id=n:=by omega
    have y1:¬id=n+1:=by omega
    have y2:¬id=n+1+1:=by omega
    have y3:¬id=n+1+1+1:=by omega
    have y4:¬id=n+2:=by omega
    have y5:¬id=n+3:=by omega
    simp [y0,y1,y2,y3,y4,y5]
  · rintro i st h' m R hi hg hk s17 hw ⟨hm,hfr,e0,e1,o,q,eb,eq,hq,hqm,hJ⟩ hR _ _
    simp at hk
    rw [List.drop_eq_getElem_cons hi,List.foldl_cons] at hJ
    refine rC_cut [0,2,4,6,7,15,16,17] (fun s=>s 18 = .bool true) (by simp [hk,s17,hi]) ?_
    intro st1 hk1 s18
    simp at hk1
    refine rC_pass s18 (rC_seqI (rC_blkI ?_))
    refine rC_cutH [0,2,4,6,7,15,16,17] (fun st2 h2 m2=>m2=m+1∧st2 9 = .ptr m 0 0∧h2 m=some ⟨true,2,[rATerm s.Terms[i]]⟩∧∀ id,id<m→h2 id=h' id) ?_ ?_
    · simp [hk1,hk,s17,hi,rATerm]
      intro id hid
      have:¬id=m:=by omega
      simp [this]
    rintro st2 h2 m2 hk2 ⟨rfl,s9,em,hfr2⟩
    simp at hk2
    have M2:MapIs d E h2 (m+1):=M.keep hd (by omega) fun id hid=>by rw [hfr2 id (by omega),hfr id hid]
    obtain ⟨rows,w,hdr,hv,hbw⟩:=M2.get (s.Terms[i]).Name
    have eb2:=hfr2 (n+3) (by omega)
    have eq2:=hfr2 q (by omega)
    rw [eb] at eb2
    rw [eq] at eq2
    simp [hk2,hk1,hk,s17,s9,em,eb2,rATerm,hdr,hv]
    first | refine callD_of (k_AddScaled o (s.Terms[i]'hi).Coeff (eget lin0 E (s.Terms[i]'hi).Name)) (by simp [rALin,eq2,hbw]) ?_ | refine call_of (k_AddScaled o (s.Terms[i]'hi).Coeff (eget lin0 E (s.Terms[i]'hi).Name)) (by simp [rALin,eq2,hbw]) ?_ | refine callD_of (k_AddScaled o (s.Terms[i]'hi).Coeff (eget lin0 E (s.Terms[i]'hi).Name)) rfl ?_ | refine call_of (k_AddScaled o (s.Terms[i]'hi).Coeff (eget lin0 E (s.Terms[i]'hi).Name)) rfl ?_
    rintro r rfl
    rw [optLin_eq]
    have hadd:(addScaled o (s.Terms[i]).Coeff (eget lin0 E (s.Terms[i]).Name)).getD lin0=addS o (s.Terms[i]).Coeff (eget lin0 E (s.Terms[i]).Name):=rfl
    rw [hadd]
    generalize addS o (s.Terms[i]).Coeff (eget lin0 E (s.Terms[i]).Name)=o' at *
    have b1:¬n+3=m+1:=by omega
    have b2:¬m+1=n+3:=by omega
    have b3:¬n=m+1:=by omega
    have b4:¬n+1=m+1:=by omega
    have b5:¬n+1+1=m:=by omega
    have b6:¬m=n+1+1:=by omega
    have b7:¬m=n+2:=by omega
    have b8:¬n+2=m:=by omega
    simp [hk2,hk1,hk,s17,hw,rULin,eb2,b1,b2,b5,b6]
    refine hR _ _ _ (by simp [hk2,hk1,hk]) (by simp) ⟨by omega,?_,?_,?_,o',m+1,by simp,by simp [b2,b6,b7],.inr (by omega),by omega,hJ⟩
    · intro id hid
      have y0:¬id=n+3:=by omega
      have y1:¬id=m+1:=by omega
      simp [y0,y1,hfr2 id (by omega),hfr id hid]
    · simp [b3,hfr2 n (by omega),e0,z3]
    · have:¬n+1=n+3:=by omega
      simp [b4,hfr2 (n+1) (by omega),e1]
      try omega
  · rintro st h' m R hk s17 ⟨hm,hfr,e0,e1,o,q,eb,eq,hq,hqm,hJ⟩ hret hX
    simp at hk
    rw [List.drop_eq_nil_of_le (by omega)] at hJ
    simp only [List.foldl_nil] at hJ
    subst hJ
    refine rC_cut [6,7] (fun s=>s 18 = .bool false) (by simp [hk,s17]) ?_
    intro st1 hk1 s18
    simp at hk1
    refine rC_stop s18 ?_
    refine hX _ _ _ _ ?_
    have c1:¬q=n+1:=by omega
    simp [hk1,hk,eb,e1]
    refine hK q _ _ (by omega) hqm ?_ (by simp [c1,eq])
    intro id hid
    have y0:¬id=n+1:=by omega
    simp [y0,hfr id hid]
theorem call_argSize {d:Nat} {E:SEnv} {h:Heap} {n N:Nat} {a:DArg} (hs:∀ s∈a.Heads,s.Terms.length≤1048576) (hne:a.Lst=false→0<a.Heads.length) (M:MapIs d E h n) (hd:d<n) {K:AV→Heap→Nat→Prop}
    (hK:∀ q h' n',n≤q→q<n'→(∀ id,id<n→h' id=h id)→h' q=some ⟨false,1,intsR (argI E N a).Coeffs⟩→K (linV (argI E N a) q) h' n') :
    ACall Tryz.prog 106 [.mp d,.agg (rAArg a),i64 N] h n K:=by
  refine acall_body Tryz.func106 a106_ok rfl (by simp [a106]) ?_
  have z0:¬n=n+1:=by omega
  have z1:¬n+1=n:=by omega
  have z2:¬n=n+1+1:=by omega
  have z3:¬n=n+1+1+1:=by omega
  have z4:¬n+1=n+1+1:=by omega
  have z5:¬n+1=n+1+1+1:=by omega
  have z6:¬n+1+1=n:=by omega
  have z7:¬n+1+1+1=n:=by omega
  unfold argI at hK
  have M2:MapIs d E (upd (upd h n (some ⟨true,3,[rAArg a]⟩)) (n+1) (some ⟨true,2,[[.int .i64 0,.nil 1]]⟩)) (n+2):=M.keep hd (by omega) fun id hid=>by
    have y0:¬id=n:=by omega
    have y1:¬id=n+1:=by omega
    simp [y0,y1]
  cases hL:a.Lst
  · rw [hL] at hK
    have hz:=hne hL
    obtain ⟨s,l,hsl⟩:∃ s l,a.Heads=s::l:=by
      cases hh:a.Heads with
      | nil=>rw [hh] at hz; cases hz
      | cons s l=>exact ⟨s,l,rfl⟩
    have hs0:=hs s (by rw [hsl]; exact List.mem_cons_self)
    simp [hsl] at hK
    simp [a106,rAArg,hL,hsl,z0,z1]
    refine call_sumSize (E:=E) hs0 (by simpa [rAArg,hL,hsl] using M2) (by omega) ?_
    intro q h' n' hq hq' hfr hqb
    have f1:=hfr (n+1) (by omega)
    simp at f1
    simp [linV,f1]
    have y2:¬q=n+1:=by omega
    refine hK q _ _ (by omega) hq' ?_ (by simp [y2,hqb])
    intro id hid
    have y0:¬id=n:=by omega
    have y1:¬id=n+1:=by omega
    simp [y0,y1,hfr id (by omega)]
  · rw [hL] at hK
    simp at hK
    simp [a106,rAArg,hL,z0,z1]
    intro _
    first | refine callD_of (k_ConstLin a.Heads.length N) (by simp) ?_ | refine call_of (k_ConstLin a.Heads.length N) (by simp) ?_ | refine callD_of (k_ConstLin a.Heads.length N) rfl ?_ | refine call_of (k_ConstLin a.Heads.length N) rfl ?_
    rintro r rfl
    obtain ⟨rows,w,hdr,hv,hw⟩:=M.get2 a.Base
    have d0:¬d=n:=by omega
    have d1:¬d=n+1:=by omega
    have d2:¬d=n+1+1:=by omega
    have d3:¬d=n+1+1+1:=by omega
    have d4:¬n+1=n+3:=by omega
    have d5:¬n+1+1=n+3:=by omega
    have fr:∀ id,id<n→¬id=n∧¬id=n+1∧¬id=n+1+1∧¬id=n+1+1+1∧¬id=n+2∧¬id=n+3∧¬id=n+1+1+1+1∧¬id=n+4:=fun id hid=>by omega
    simp [rULin,z0,z1,z2,z3,z4,z5,z6,z7]
    constructor
    · intro hb
      rw [if_neg hb] at hK
      simp [d0,d1,d2,d3,hdr,hv]
      unfold addS at hK
      rcases hw with ⟨rfl,hc⟩ | ⟨q,hq,rfl,hqb⟩
      · have hl:eget lin0 E a.Base=⟨(eget lin0 E a.Base).Const,[]⟩:=by rw [←hc]
        generalize (eget lin0 E a.Base).Const=cc at *
        rw [hl] at hK
        have en:intsR []=[]:=rfl
        first | refine callD_of (k_AddScaled (constLin a.Heads.length N) 1 ⟨cc,[]⟩) (by simp [rALin,rULin,en,z0,z1,z2,z3,z4,z5,z6,z7]) ?_ | refine call_of (k_AddScaled (constLin a.Heads.length N) 1 ⟨cc,[]⟩) (by simp [rALin,rULin,en,z0,z1,z2,z3,z4,z5,z6,z7]) ?_ | refine callD_of (k_AddScaled (constLin a.Heads.length N) 1 ⟨cc,[]⟩) rfl ?_ | refine call_of (k_AddScaled (constLin a.Heads.length N) 1 ⟨cc,[]⟩) rfl ?_
        rintro r rfl
        rw [optLin_eq]
        generalize (addScaled (constLin a.Heads.length N) 1 ⟨cc,[]⟩).getD lin0=o' at *
        simp [rULin,z0,z1,z2,z3,z4,z5,z6,z7]
        refine hK (n+4) _ _ (by omega) (by omega) (fun id hid=>by simp [fr id hid]) (by simp)
      · obtain ⟨q0,q1,q2,q3,q4,q5,q6,q7⟩:=fr q hq
        first | refine callD_of (k_AddScaled (constLin a.Heads.length N) 1 (eget lin0 E a.Base)) (by simp [rALin,rULin,z0,z1,z2,z3,z4,z5,z6,z7,hqb,q0,q1,q2,q3]) ?_ | refine call_of (k_AddScaled (constLin a.Heads.length N) 1 (eget lin0 E a.Base)) (by simp [rALin,rULin,z0,z1,z2,z3,z4,z5,z6,z7,hqb,q0,q1,q2,q3]) ?_ | refine callD_of (k_AddScaled (constLin a.Heads.length N) 1 (eget lin0 E a.Base)) rfl ?_ | refine call_of (k_AddScaled (constLin a.Heads.length N) 1 (eget lin0 E a.Base)) rfl ?_
        rintro r rfl
        rw [optLin_eq]
        generalize (addScaled (constLin a.Heads.length N) 1 (eget lin0 E a.Base)).getD lin0=o' at *
        simp [rULin,z0,z1,z2,z3,z4,z5,z6,z7]
        refine hK (n+4) _ _ (by omega) (by omega) (fun id hid=>by simp [fr id hid]) (by simp)
    · intro hb
      rw [if_pos hb] at hK
      refine hK (n+2) _ _ (by omega) (by omega) (fun id hid=>by simp [fr id hid]) (by simp)
end Go.Proofs.YtilcageplifbgaaGreat

namespace Go.Proofs.YtilcageplifbgaaGreat
set_option linter.all false
open Go Go.RowKit Go.Proofs
def a219:AFn:=
⟨10,[(.t 2)],(.seq
 (.reg [⟨some 2,(.mv (.k (.bool false))),no⟩]) (.seq (.seq
 (.reg [⟨some 3,(.mv (.t 0)),no⟩]) (.blk 0 (.seq (.seq
 (.reg [⟨some 5,(.bin .eql (.t 3) (.k (.str [102,117,110]))),no⟩,⟨some 4,(.mv (.t 5)),no⟩]) (.cond (.t 4) .skip (.seq
 (.reg [⟨some 6,(.bin .eql (.t 3) (.k (.str [112,114,101]))),no⟩,⟨some 4,(.mv (.t 6)),no⟩]) (.cond (.t 4) .skip (.seq
 (.reg [⟨some 7,(.bin .eql (.t 3) (.k (.str [114,117,108,101]))),no⟩,⟨some 4,(.mv (.t 7)),no⟩]) (.cond (.t 4) .skip (.seq
 (.reg [⟨some 8,(.bin .eql (.t 3) (.k (.str [114,101,116,117,114,110]))),no⟩,⟨some 4,(.mv (.t 8)),no⟩]) (.cond (.t 4) .skip
 (.reg [⟨some 9,(.bin .eql (.t 3) (.k (.str [110,105,108]))),no⟩,⟨some 4,(.mv (.t 9)),no⟩]))))))))) (.cond (.t 4) (.seq
 (.reg [⟨some 2,(.mv (.k (.bool true))),no⟩]) .ret) .skip)))) (.seq
 (.reg [⟨some 2,(.mv (.k (.bool false))),no⟩]) .ret)))⟩
theorem a219_ok:compFn Tryz.prog Tryz.f219=some a219:=by kernel_rfl
def a239:AFn:=
⟨18,[(.t 4)],(.seq
 (.reg [⟨some 4,(.mv (.k (.bool false))),no⟩]) (.seq (.seq
 (.reg [⟨some 5,(.mv (.k (.int .i64 0))),no⟩]) (.blk 0 (.loop (.seq (.seq
 (.reg [⟨some 6,(.mv (.t 5)),no⟩,⟨some 7,(.mv (.t 0)),no⟩,⟨some 8,(.len false (.t 7)),no⟩,⟨some 9,(.bin .lss (.t 6) (.t 8)),no⟩]) (.cond (.t 9) .skip (.exit 0))) (.seq (.blk 1 (.seq
 (.reg [⟨some 12,(.mv (.t 0)),no⟩,⟨some 13,(.mv (.t 5)),no⟩,⟨some 14,(.ixa 1 (.t 12) (.t 13)),no⟩,⟨some 15,(.ld false 1 (.t 14)),no⟩,⟨some 16,(.mv (.t 1)),no⟩,⟨some 17,(.bin .eql (.t 15) (.t 16)),no⟩]) (.cond (.t 17) (.seq
 (.reg [⟨some 4,(.mv (.k (.bool true))),no⟩]) .ret) .skip)))
 (.reg [⟨some 10,(.mv (.t 5)),no⟩,⟨some 11,(.bin .add (.t 10) (.k (.int .i64 1))),no⟩,⟨some 5,(.mv (.t 11)),no⟩])))))) (.seq
 (.reg [⟨some 4,(.mv (.k (.bool false))),no⟩]) .ret)))⟩
theorem a239_ok:compFn Tryz.prog Tryz.f239=some a239:=by kernel_rfl
def a169:AFn:=
⟨19,[(.t 4)],(.seq
 (.reg [⟨some 4,(.mv (.k (.int .i64 0))),no⟩]) (.seq (.seq
 (.reg [⟨some 6,(.mv (.t 0)),no⟩,⟨some 7,(.len false (.t 6)),no⟩,⟨some 8,(.mv (.k (.int .i64 0))),no⟩]) (.blk 0 (.loop (.seq
 (.reg [⟨some 9,(.bin .lss (.t 8) (.t 7)),no⟩]) (.seq (.cond (.t 9) .skip (.exit 0)) (.seq (.blk 1 (.seq
 (.reg [⟨some 10,(.mv (.t 8)),no⟩,⟨some 5,(.mv (.t 10)),no⟩]) (.seq
 (.reg [⟨some 11,(.mv (.t 1)),no⟩,⟨some 12,(.mv (.t 0)),no⟩,⟨some 13,(.mv (.t 5)),no⟩,⟨some 14,(.ixa 1 (.t 12) (.t 13)),no⟩,⟨some 15,(.ld false 1 (.t 14)),no⟩,⟨some 16,(.bin .eql (.t 11) (.t 15)),no⟩]) (.cond (.t 16) (.seq
 (.reg [⟨some 17,(.mv (.t 5)),no⟩,⟨some 4,(.mv (.t 17)),no⟩]) .ret) .skip))))
 (.reg [⟨some 18,(.bin .add (.t 8) (.k (.int .i64 1))),no⟩,⟨some 8,(.mv (.t 18)),no⟩]))))))) (.seq
 (.reg [⟨some 4,(.mv (.k (.int .i64 (-1)))),no⟩]) .ret)))⟩
theorem a169_ok:compFn Tryz.prog Tryz.f169=some a169:=by kernel_rfl
def a81:AFn:=
⟨9,[(.t 4)],(.seq
 (.reg [⟨some 4,(.mv (.k (.bool false))),no⟩]) (.seq
 (.reg [⟨some 5,(.mv (.t 0)),no⟩,⟨some 6,(.mv (.t 1)),no⟩,⟨some 7,(.call (.k (.fn (.func 169) [] [])) [(.t 5),(.t 6)]),no⟩,⟨some 8,(.bin .geq (.t 7) (.k (.int .i64 0))),no⟩,⟨some 4,(.mv (.t 8)),no⟩]) .ret))⟩
theorem a81_ok:compFn Tryz.prog Tryz.f81=some a81:=by kernel_rfl
def a75:AFn:=
⟨19,[(.t 4)],(.seq
 (.reg [⟨some 4,(.mv (.k (.int .i64 0))),no⟩]) (.seq (.seq
 (.reg [⟨some 5,(.mv (.k (.int .i64 0))),no⟩]) (.blk 0 (.loop (.seq (.seq
 (.reg [⟨some 6,(.mv (.t 5)),no⟩,⟨some 7,(.mv (.t 0)),no⟩,⟨some 8,(.len false (.t 7)),no⟩,⟨some 9,(.bin .lss (.t 6) (.t 8)),no⟩]) (.cond (.t 9) .skip (.exit 0))) (.seq (.blk 1 (.seq
 (.reg [⟨some 12,(.mv (.t 0)),no⟩,⟨some 13,(.mv (.t 5)),no⟩,⟨some 14,(.ixa 1 (.t 12) (.t 13)),no⟩,⟨some 15,(.ld false 1 (.t 14)),no⟩,⟨some 16,(.mv (.t 1)),no⟩,⟨some 17,(.bin .eql (.t 15) (.t 16)),no⟩]) (.cond (.t 17) (.seq
 (.reg [⟨some 18,(.mv (.t 5)),no⟩,⟨some 4,(.mv (.t 18)),no⟩]) .ret) .skip)))
 (.reg [⟨some 10,(.mv (.t 5)),no⟩,⟨some 11,(.bin .add (.t 10) (.k (.int .i64 1))),no⟩,⟨some 5,(.mv (.t 11)),no⟩])))))) (.seq
 (.reg [⟨some 4,(.mv (.k (.int .i64 (-1)))),no⟩]) .ret)))⟩
theorem a75_ok:compFn Tryz.prog Tryz.f75=some a75:=by kernel_rfl
def a295:AFn:=
⟨2,[(.t 0)],(.seq
 (.reg [⟨some 0,(.mv (.k (.nil 1))),no⟩]) (.seq
 (.reg [⟨some 1,(.bsl 1 [(.k (.str [102,117,110])),(.k (.str [112,114,101])),(.k (.str [114,117,108,101])),(.k (.str [114,101,116,117,114,110])),(.k (.str [110,105,108]))]),no⟩,⟨some 0,(.mv (.t 1)),no⟩]) .ret))⟩
theorem a295_ok:compFn Tryz.prog Tryz.f295=some a295:=by kernel_rfl
def a271:AFn:=
⟨6,[(.t 2)],(.seq
 (.reg [⟨some 2,(.mv (.k (.bool false))),no⟩]) (.seq
 (.reg [⟨some 3,(.call (.k (.fn (.func 295) [] [])) []),no⟩,⟨some 4,(.mv (.t 0)),no⟩,⟨some 5,(.call (.k (.fn (.func 239) [] [])) [(.t 3),(.t 4)]),no⟩,⟨some 2,(.mv (.t 5)),no⟩]) .ret))⟩
theorem a271_ok:compFn Tryz.prog Tryz.f271=some a271:=by kernel_rfl
def a152:AFn:=
⟨50,[(.t 2)],(.seq
 (.reg [⟨some 2,(.mv (.k (.bool false))),no⟩]) (.seq (.seq
 (.reg [⟨some 6,(.mv (.t 0)),no⟩,⟨some 7,(.len true (.t 6)),no⟩,⟨some 8,(.call (.k (.fn (.func 98) [] [])) [(.t 7),(.k (.int .i64 1)),(.k (.int .i64 8))]),no⟩,⟨some 9,(.un .not (.t 8)),no⟩,⟨some 10,(.mv (.t 9)),no⟩,⟨some 11,(.mv (.t 0)),(some (10,false))⟩,⟨some 12,(.call (.k (.fn (.func 219) [] [])) [(.t 11)]),(some (10,false))⟩,⟨some 13,(.pick (.t 10) (.k (.bool true)) (.t 12)),no⟩]) (.cond (.t 13) (.seq
 (.reg [⟨some 2,(.mv (.k (.bool false))),no⟩]) .ret) .skip)) (.seq (.seq
 (.reg [⟨some 3,(.mv (.k (.int .i64 0))),no⟩]) (.blk 0 (.loop (.seq (.seq
 (.reg [⟨some 14,(.mv (.t 3)),no⟩,⟨some 15,(.mv (.t 0)),no⟩,⟨some 16,(.len true (.t 15)),no⟩,⟨some 17,(.bin .lss (.t 14) (.t 16)),no⟩]) (.cond (.t 17) .skip (.exit 0))) (.seq (.blk 1 (.seq
 (.reg [⟨some 20,(.mv (.t 0)),no⟩,⟨some 21,(.mv (.t 3)),no⟩,⟨some 22,(.ixs (.t 20) (.t 21)),no⟩,⟨some 23,(.bin .geq (.t 22) (.k (.int .u8 97))),no⟩,⟨some 24,(.mv (.t 23)),no⟩,⟨some 25,(.mv (.t 0)),(some (24,true))⟩,⟨some 26,(.mv (.t 3)),(some (24,true))⟩,⟨some 27,(.ixs (.t 25) (.t 26)),(some (24,true))⟩,⟨some 28,(.bin .leq (.t 27) (.k (.int .u8 122))),(some (24,true))⟩,⟨some 29,(.pick (.t 24) (.t 28) (.k (.bool false))),no⟩,⟨some 4,(.mv (.t 29)),no⟩]) (.seq
 (.reg [⟨some 30,(.mv (.t 0)),no⟩,⟨some 31,(.mv (.t 3)),no⟩,⟨some 32,(.ixs (.t 30) (.t 31)),no⟩,⟨some 33,(.bin .geq (.t 32) (.k (.int .u8 48))),no⟩,⟨some 34,(.mv (.t 33)),no⟩,⟨some 35,(.mv (.t 0)),(some (34,true))⟩,⟨some 36,(.mv (.t 3)),(some (34,true))⟩,⟨some 37,(.ixs (.t 35) (.t 36)),(some (34,true))⟩,⟨some 38,(.bin .leq (.t 37) (.k (.int .u8 57))),(some (34,true))⟩,⟨some 39,(.pick (.t 34) (.t 38) (.k (.bool false))),no⟩,⟨some 5,(.mv (.t 39)),no⟩]) (.seq
 (.reg [⟨some 40,(.mv (.t 4)),no⟩,⟨some 41,(.un .not (.t 40)),no⟩,⟨some 42,(.mv (.t 41)),no⟩,⟨some 43,(.mv (.t 5)),(some (42,true))⟩,⟨some 44,(.mv (.t 43)),(some (42,true))⟩,⟨some 45,(.mv (.t 3)),(some (44,true))⟩,⟨some 46,(.bin .gtr (.t 45) (.k (.int .i64 0))),(some (44,true))⟩,⟨some 47,(.pick (.t 44) (.t 46) (.k (.bool false))),(some (42,true))⟩,⟨some 48,(.un .not (.t 47)),(some (42,true))⟩,⟨some 49,(.pick (.t 42) (.t 48) (.k (.bool false))),no⟩]) (.cond (.t 49) (.seq
 (.reg [⟨some 2,(.mv (.k (.bool false))),no⟩]) .ret) .skip)))))
 (.reg [⟨some 18,(.mv (.t 3)),no⟩,⟨some 19,(.bin .add (.t 18) (.k (.int .i64 1))),no⟩,⟨some 3,(.mv (.t 19)),no⟩])))))) (.seq
 (.reg [⟨some 2,(.mv (.k (.bool true))),no⟩]) .ret))))⟩
theorem a152_ok:compFn Tryz.prog Tryz.f152=some a152:=by kernel_rfl
def a270:AFn:=
⟨45,[(.t 2)],(.seq
 (.reg [⟨some 2,(.mv (.k (.bool false))),no⟩]) (.seq (.seq
 (.reg [⟨some 3,(.mv (.k (.int .i64 0))),no⟩]) (.blk 0 (.loop (.seq (.seq
 (.reg [⟨some 6,(.mv (.t 3)),no⟩,⟨some 7,(.mv (.t 0)),no⟩,⟨some 8,(.len true (.t 7)),no⟩,⟨some 9,(.bin .lss (.t 6) (.t 8)),no⟩]) (.cond (.t 9) .skip (.exit 0))) (.seq (.blk 1 (.seq
 (.reg [⟨some 12,(.mv (.t 0)),no⟩,⟨some 13,(.mv (.t 3)),no⟩,⟨some 14,(.ixs (.t 12) (.t 13)),no⟩,⟨some 15,(.bin .geq (.t 14) (.k (.int .u8 97))),no⟩,⟨some 16,(.mv (.t 15)),no⟩,⟨some 17,(.mv (.t 0)),(some (16,true))⟩,⟨some 18,(.mv (.t 3)),(some (16,true))⟩,⟨some 19,(.ixs (.t 17) (.t 18)),(some (16,true))⟩,⟨some 20,(.bin .leq (.t 19) (.k (.int .u8 122))),(some (16,true))⟩,⟨some 21,(.pick (.t 16) (.t 20) (.k (.bool false))),no⟩,⟨some 4,(.mv (.t 21)),no⟩]) (.seq
 (.reg [⟨some 22,(.mv (.t 0)),no⟩,⟨some 23,(.mv (.t 3)),no⟩,⟨some 24,(.ixs (.t 22) (.t 23)),no⟩,⟨some 25,(.bin .geq (.t 24) (.k (.int .u8 48))),no⟩,⟨some 26,(.mv (.t 25)),no⟩,⟨some 27,(.mv (.t 0)),(some (26,true))⟩,⟨some 28,(.mv (.t 3)),(some (26,true))⟩,⟨some 29,(.ixs (.t 27) (.t 28)),(some (26,true))⟩,⟨some 30,(.bin .leq (.t 29) (.k (.int .u8 57))),(some (26,true))⟩,⟨some 31,(.pick (.t 26) (.t 30) (.k (.bool false))),no⟩,⟨some 5,(.mv (.t 31)),no⟩]) (.seq
 (.reg [⟨some 32,(.mv (.t 4)),no⟩,⟨some 33,(.un .not (.t 32)),no⟩,⟨some 34,(.mv (.t 33)),no⟩,⟨some 35,(.mv (.t 3)),(some (34,true))⟩,⟨some 36,(.bin .eql (.t 35) (.k (.int .i64 0))),(some (34,true))⟩,⟨some 37,(.mv (.t 36)),(some (34,true))⟩,⟨some 38,(.mv (.t 5)),(some (37,false))⟩,⟨some 39,(.un .not (.t 38)),(some (37,false))⟩,⟨some 40,(.pick (.t 37) (.k (.bool true)) (.t 39)),(some (34,true))⟩,⟨some 41,(.pick (.t 34) (.t 40) (.k (.bool false))),no⟩]) (.cond (.t 41) (.seq
 (.reg [⟨some 2,(.mv (.k (.bool false))),no⟩]) .ret) .skip)))))
 (.reg [⟨some 10,(.mv (.t 3)),no⟩,⟨some 11,(.bin .add (.t 10) (.k (.int .i64 1))),no⟩,⟨some 3,(.mv (.t 11)),no⟩])))))) (.seq
 (.reg [⟨some 42,(.mv (.t 0)),no⟩,⟨some 43,(.len true (.t 42)),no⟩,⟨some 44,(.bin .gtr (.t 43) (.k (.int .i64 0))),no⟩,⟨some 2,(.mv (.t 44)),no⟩]) .ret)))⟩
theorem a270_ok:compFn Tryz.prog Tryz.f270=some a270:=by kernel_rfl
def a212:AFn:=
⟨15,[(.t 2)],(.seq
 (.reg [⟨some 2,(.mv (.k (.bool false))),no⟩]) (.seq
 (.reg [⟨some 3,(.mv (.t 0)),no⟩,⟨some 4,(.call (.k (.fn (.func 270) [] [])) [(.t 3)]),no⟩,⟨some 5,(.mv (.t 4)),no⟩,⟨some 6,(.mv (.t 0)),(some (5,true))⟩,⟨some 7,(.len true (.t 6)),(some (5,true))⟩,⟨some 8,(.bin .leq (.t 7) (.k (.int .i64 8))),(some (5,true))⟩,⟨some 9,(.pick (.t 5) (.t 8) (.k (.bool false))),no⟩,⟨some 10,(.mv (.t 9)),no⟩,⟨some 11,(.mv (.t 0)),(some (10,true))⟩,⟨some 12,(.call (.k (.fn (.func 271) [] [])) [(.t 11)]),(some (10,true))⟩,⟨some 13,(.un .not (.t 12)),(some (10,true))⟩,⟨some 14,(.pick (.t 10) (.t 13) (.k (.bool false))),no⟩,⟨some 2,(.mv (.t 14)),no⟩]) .ret))⟩
theorem a212_ok:compFn Tryz.prog Tryz.f212=some a212:=by kernel_rfl
def a64:AFn:=
⟨13,[(.t 2)],(.seq
 (.reg [⟨some 2,(.mv (.k (.bool false))),no⟩]) (.seq
 (.reg [⟨some 3,(.mv (.t 0)),no⟩,⟨some 4,(.call (.k (.fn (.func 152) [] [])) [(.t 3)]),no⟩,⟨some 5,(.mv (.t 4)),no⟩,⟨some 6,(.mv (.t 0)),(some (5,true))⟩,⟨some 7,(.mv (.t 0)),(some (5,true))⟩,⟨some 8,(.len true (.t 7)),(some (5,true))⟩,⟨some 9,(.bin .sub (.t 8) (.k (.int .i64 1))),(some (5,true))⟩,⟨some 10,(.ixs (.t 6) (.t 9)),(some (5,true))⟩,⟨some 11,(.bin .eql (.t 10) (.k (.int .u8 115))),(some (5,true))⟩,⟨some 12,(.pick (.t 5) (.t 11) (.k (.bool false))),no⟩,⟨some 2,(.mv (.t 12)),no⟩]) .ret))⟩
theorem a64_ok:compFn Tryz.prog Tryz.f64=some a64:=by kernel_rfl
def a149:AFn:=
⟨10,[(.t 2)],(.seq
 (.reg [⟨some 2,(.mv (.k (.bool false))),no⟩]) (.seq
 (.reg [⟨some 3,(.mv (.t 0)),no⟩,⟨some 4,(.call (.k (.fn (.func 152) [] [])) [(.t 3)]),no⟩,⟨some 5,(.mv (.t 4)),no⟩,⟨some 6,(.mv (.t 0)),(some (5,true))⟩,⟨some 7,(.call (.k (.fn (.func 64) [] [])) [(.t 6)]),(some (5,true))⟩,⟨some 8,(.un .not (.t 7)),(some (5,true))⟩,⟨some 9,(.pick (.t 5) (.t 8) (.k (.bool false))),no⟩,⟨some 2,(.mv (.t 9)),no⟩]) .ret))⟩
theorem a149_ok:compFn Tryz.prog Tryz.f149=some a149:=by kernel_rfl
def a143:AFn:=
⟨13,[(.t 2)],(.seq
 (.reg [⟨some 2,(.mv (.k (.bool false))),no⟩]) (.seq
 (.reg [⟨some 3,(.mv (.t 0)),no⟩,⟨some 4,(.call (.k (.fn (.func 212) [] [])) [(.t 3)]),no⟩,⟨some 5,(.mv (.t 4)),no⟩,⟨some 6,(.mv (.t 0)),(some (5,true))⟩,⟨some 7,(.mv (.t 0)),(some (5,true))⟩,⟨some 8,(.len true (.t 7)),(some (5,true))⟩,⟨some 9,(.bin .sub (.t 8) (.k (.int .i64 1))),(some (5,true))⟩,⟨some 10,(.ixs (.t 6) (.t 9)),(some (5,true))⟩,⟨some 11,(.bin .eql (.t 10) (.k (.int .u8 115))),(some (5,true))⟩,⟨some 12,(.pick (.t 5) (.t 11) (.k (.bool false))),no⟩,⟨some 2,(.mv (.t 12)),no⟩]) .ret))⟩
theorem a143_ok:compFn Tryz.prog Tryz.f143=some a143:=by kernel_rfl
def a204:AFn:=
⟨10,[(.t 2)],(.seq
 (.reg [⟨some 2,(.mv (.k (.bool false))),no⟩]) (.seq
 (.reg [⟨some 3,(.mv (.t 0)),no⟩,⟨some 4,(.call (.k (.fn (.func 212) [] [])) [(.t 3)]),no⟩,⟨some 5,(.mv (.t 4)),no⟩,⟨some 6,(.mv (.t 0)),(some (5,true))⟩,⟨some 7,(.call (.k (.fn (.func 143) [] [])) [(.t 6)]),(some (5,true))⟩,⟨some 8,(.un .not (.t 7)),(some (5,true))⟩,⟨some 9,(.pick (.t 5) (.t 8) (.k (.bool false))),no⟩,⟨some 2,(.mv (.t 9)),no⟩]) .ret))⟩
theorem a204_ok:compFn Tryz.prog Tryz.f204=some a204:=by kernel_rfl
theorem k_IsReserved (s:Str):Holds Tryz.prog 219 [.str s] (fun r=>r = .bool (resv s)):=by
  by_cases e1:s=[102,117,110]
  · subst e1
    refine holds_of_run Tryz.func219 a219_ok rfl (by simp [a219]) ?_
    simp [a219,resv,hasS,resvL]
  by_cases e2:s=[112,114,101]
  · subst e2
    refine holds_of_run Tryz.func219 a219_ok rfl (by simp [a219]) ?_
    simp [a219,resv,hasS,resvL]
  by_cases e3:s=[114,117,108,101]
  · subst e3
    refine holds_of_run Tryz.func219 a219_ok rfl (by simp [a219]) ?_
    simp [a219,resv,hasS,resvL]
  by_cases e4:s=[114,101,116,117,114,110]
  · subst e4
    refine holds_of_run Tryz.func219 a219_ok rfl (by simp [a219]) ?_
    simp [a219,resv,hasS,resvL]
  by_cases e5:s=[110,105,108]
  · subst e5
    refine holds_of_run Tryz.func219 a219_ok rfl (by simp [a219]) ?_
    simp [a219,resv,hasS,resvL]
  have hr:resv s=false:=by simp [resv,hasS,resvL,Ne.symm e1,Ne.symm e2,Ne.symm e3,Ne.symm e4,Ne.symm e5]
  rw [hr]
  refine holds_of_run Tryz.func219 a219_ok rfl (by simp [a219]) ?_
  simp [a219,e1,e2,e3,e4,e5]
theorem hasS_drop {l:List Str} {s:Str} {i:Nat} (hi:i<l.length):hasS (l.drop i) s=((l[i]==s)||hasS (l.drop (i+1)) s):=by
  rw [List.drop_eq_getElem_cons hi]; rfl
theorem ks_l1Has (l:List Str) (s:Str):Holds Tryz.prog 239 [.sl 1 (strsR l),.str s] (fun r=>r = .bool (hasS l s)):=by
  refine holds_of_lim Tryz.func239 rfl rfl fun hl => ?_
  simp at hl
  refine holds_of_run Tryz.func239 a239_ok rfl (by simp [a239]) ?_
  simp [a239]
  generalize hB:hasS l s=B
  refine rL_forS [0,1] 5 l.length (fun i _=>hasS (l.drop i) s=B) hl.1 (by simp) (by simpa using hB) ?_ ?_
  · rintro i st h R hi hg hk s5 hw hJ hh hR hret _
    simp at hk
    rw [hasS_drop hi] at hJ
    simp [hk,s5,hi,hg]
    intro _
    by_cases hx:l[i]=s
    · simp [hx] at hJ
      simp [hx]
      refine hret _ _ _ ?_
      simp [hJ]
    · have:(l[i]==s)=false:=by simpa using hx
      rw [this,Bool.false_or] at hJ
      simp [hx,hk,s5,hw]
      exact hR _ (by simp [hk]) (by simp) hJ
  · rintro st h R hk s5 hJ hh _ hX
    simp at hk
    rw [List.drop_eq_nil_of_le (by omega)] at hJ
    simp [hk,s5]
    intro _
    refine hX _ _ ?_
    simp [←hJ,hasS]
theorem k_Index (l:List Str) (s:Str):Holds Tryz.prog 169 [.sl 1 (strsR l),.str s] (fun r=>r=i64 (idxFrom (fun x=>x==s) l 0)):=by
  refine holds_of_lim Tryz.func169 rfl rfl fun hl => ?_
  simp at hl
  refine holds_of_run Tryz.func169 a169_ok rfl (by simp [a169]) ?_
  simp [a169]
  intro _
  generalize hB:idxFrom (fun x=>x==s) l 0=B
  refine rL_forS [0,1,7] 8 l.length (fun i _=>idxFrom (fun x=>x==s) (l.drop i) i=B) hl.1 (by simp) (by simpa using hB) ?_ ?_
  · rintro i st h R hi hg hk s8 hw hJ hh hR hret _
    simp at hk
    rw [List.drop_eq_getElem_cons hi] at hJ
    simp only [idxFrom] at hJ
    simp [hk,s8,hi,hg]
    by_cases hx:s=l[i]
    · rw [if_pos (by simp [hx])] at hJ
      simp [hx]
      refine hret _ _ _ ?_
      simp [hJ]
    · rw [if_neg (by simpa using fun h=>hx h.symm)] at hJ
      simp [hx,hk,s8,hw]
      exact hR _ (by simp [hk]) (by simp) hJ
  · rintro st h R hk s8 hJ hh _ hX
    simp at hk
    rw [List.drop_eq_nil_of_le (by omega)] at hJ
    simp [hk,s8]
    refine hX _ _ ?_
    simp [←hJ,idxFrom]
theorem k_Contains (l:List Str) (s:Str):Holds Tryz.prog 81 [.sl 1 (strsR l),.str s] (fun r=>r = .bool (hasS l s)):=by
  refine holds_of_run Tryz.func81 a81_ok rfl (by simp [a81]) ?_
  simp [a81]
  first | refine callD_of (k_Index l s) (by simp) ?_ | refine call_of (k_Index l s) (by simp) ?_ | refine callD_of (k_Index l s) rfl ?_ | refine call_of (k_Index l s) rfl ?_
  rintro r rfl
  have:=idxFrom_any (p:=fun x=>x==s) (l:=l) (i:=0)
  simp only [ge_iff_le] at this
  simp [this,hasS]
theorem ks_IndexOf (l:List Str) (s:Str):Holds Tryz.prog 75 [.sl 1 (strsR l),.str s] (fun r=>r=i64 (idxFrom (fun x=>x==s) l 0)):=by
  refine holds_of_lim Tryz.func75 rfl rfl fun hl => ?_
  simp at hl
  refine holds_of_run Tryz.func75 a75_ok rfl (by simp [a75]) ?_
  simp [a75]
  generalize hB:idxFrom (fun x=>x==s) l 0=B
  refine rL_forS [0,1] 5 l.length (fun i _=>idxFrom (fun x=>x==s) (l.drop i) i=B) hl.1 (by simp) (by simpa using hB) ?_ ?_
  · rintro i st h R hi hg hk s5 hw hJ hh hR hret _
    simp at hk
    rw [List.drop_eq_getElem_cons hi] at hJ
    simp only [idxFrom] at hJ
    simp [hk,s5,hi,hg]
    intro _
    by_cases hx:l[i]=s
    · rw [if_pos (by simp [hx])] at hJ
      simp [hx,s5]
      refine hret _ _ _ ?_
      simp [hJ]
    · rw [if_neg (by simpa using hx)] at hJ
      simp [hx,hk,s5,hw]
      exact hR _ (by simp [hk]) (by simp) hJ
  · rintro st h R hk s5 hJ hh _ hX
    simp at hk
    rw [List.drop_eq_nil_of_le (by omega)] at hJ
    simp [hk,s5]
    intro _
    refine hX _ _ ?_
    simp [←hJ,idxFrom]
theorem ks_l2Reserved:Holds Tryz.prog 295 [] (fun r=>r = .us 1 (strsR resvL)):=by
  refine holds_of_run Tryz.func295 a295_ok rfl (by simp [a295]) ?_
  simp [a295]
  simp [strsR,resvL]
theorem ks_IsReserved (s:Str):Holds Tryz.prog 271 [.str s] (fun r=>r = .bool (resv s)):=by
  refine holds_of_run Tryz.func271 a271_ok rfl (by simp [a271]) ?_
  simp [a271]
  first | refine callD_of (ks_l2Reserved) (by simp) ?_ | refine call_of (ks_l2Reserved) (by simp) ?_ | refine callD_of (ks_l2Reserved) rfl ?_ | refine call_of (ks_l2Reserved) rfl ?_
  rintro r rfl
  simp
  first | refine callD_of (ks_l1Has resvL s) (by simp) ?_ | refine call_of (ks_l1Has resvL s) (by simp) ?_ | refine callD_of (ks_l1Has resvL s) rfl ?_ | refine call_of (ks_l1Has resvL s) rfl ?_
  rintro r rfl
  simp [resv]
theorem shape_drop {s:Str} {i:Nat} (hi:i<s.length):shapeFrom i (s.drop i)=((letterB s[i]||(decide (i≠0)&&digitB s[i]))&&shapeFrom (i+1) (s.drop (i+1))):=by
  rw [List.drop_eq_getElem_cons hi]; rfl
set_option maxRecDepth 20000 in
theorem k_IsValidName (s:Str):Holds Tryz.prog 152 [.str s] (fun r=>r = .bool (okName s)):=by
  refine holds_of_run Tryz.func152 a152_ok rfl (by simp [a152]) ?_
  simp [a152]
  intro hl
  first | refine callD_of (k_within s.length 1 8) (by simp) ?_ | refine call_of (k_within s.length 1 8) (by simp) ?_ | refine callD_of (k_within s.length 1 8) rfl ?_ | refine call_of (k_within s.length 1 8) rfl ?_
  rintro r rfl
  unfold okName
  cases h1:inR s.length 1 8
  · simp
  simp
  first | refine callD_of (k_IsReserved s) (by simp) ?_ | refine call_of (k_IsReserved s) (by simp) ?_ | refine callD_of (k_IsReserved s) rfl ?_ | refine call_of (k_IsReserved s) rfl ?_
  rintro r rfl
  cases h2:resv s
  case true=>simp
  simp
  generalize hB:shapeFrom 0 s=B
  refine rL_forS [0] 3 s.length (fun i _=>shapeFrom i (s.drop i)=B) hl (by simp) (by simpa using hB) ?_ ?_
  · rintro i st h R hi hg hk s3 hw hJ hh hR hret _
    simp at hk
    rw [shape_drop hi] at hJ
    have hgd:s[i]?.getD 0=s[i]:=by simp [hi]
    unfold letterB digitB at hJ
    obtain ⟨m,hm⟩:∃ m:Int,((s[i]).toNat:Int)=m:=⟨_,rfl⟩
    rw [hm] at hJ
    refine rC_cut [0,3] (fun _=>True) (by simp [hk,s3,hi]) ?_
    intro s1 hk1 _
    simp at hk1
    refine rC_seqI (rC_blkI (rC_cut [0,3] (fun s=>s 4 = .bool (decide (97≤m)&&decide (m≤122))) ?_ ?_))
    · by_cases u1:97≤m <;> by_cases u2:m≤122 <;> simp [hk,s3,hk1,hi,hgd,hm,u1,u2]
    intro s2 hk2 s4
    simp at hk2
    refine rC_cut [0,3,4] (fun s=>s 5 = .bool (decide (48≤m)&&decide (m≤57))) ?_ ?_
    · by_cases u1:48≤m <;> by_cases u2:m≤57 <;> simp [hk,s3,hk1,hk2,hi,hgd,hm,u1,u2]
    intro s5 hk5 s55
    simp at hk5
    generalize (decide (97≤m)&&decide (m≤122))=L at *
    generalize (decide (48≤m)&&decide (m≤57))=D at *
    cases L
    · cases D
      · rw [Bool.and_false,Bool.or_false,Bool.false_and] at hJ
        simp [hk,s3,hk1,hk2,hk5,s4,s55]
        refine hret _ _ _ ?_
        simp [hJ]
      · by_cases h0:i=0
        · subst h0
          simp at hJ
          simp [hk,s3,hk1,hk2,hk5,s4,s55]
          refine hret _ _ _ ?_
          simp [hJ]
        · simp [h0] at hJ
          simp [hk,s3,hk1,hk2,hk5,s4,s55,hw,(by omega:0<i)]
          exact hR _ (by simp [hk,hk1,hk2,hk5]) (by simp) hJ
    · simp at hJ
      simp [hk,s3,hk1,hk2,hk5,s4,s55,hw]
      exact hR _ (by simp [hk,hk1,hk2,hk5]) (by simp) hJ
  · rintro st h R hk s3 hJ hh _ hX
    simp at hk
    rw [List.drop_eq_nil_of_le (by omega)] at hJ
    simp [hk,s3]
    intro _
    refine hX _ _ ?_
    simp [←hJ,shapeFrom]
set_option maxRecDepth 20000 in
set_option maxHeartbeats 1000000 in
theorem ks_l2Shape (s:Str):Holds Tryz.prog 270 [.str s] (fun r=>r = .bool (shapeFrom 0 s&&decide (0<s.length))):=by
  refine holds_of_lim Tryz.func270 rfl rfl fun hl => ?_
  simp at hl
  refine holds_of_run Tryz.func270 a270_ok rfl (by simp [a270]) ?_
  simp [a270]
  generalize hB:shapeFrom 0 s=B
  refine rL_forS [0] 3 s.length (fun i _=>shapeFrom i (s.drop i)=B) hl (by simp) (by simpa using hB) ?_ ?_
  · rintro i st h R hi hg hk s3 hw hJ hh hR hret _
    simp at hk
    rw [shape_drop hi] at hJ
    have hgd:s[i]?.getD 0=s[i]:=by simp [hi]
    unfold letterB digitB at hJ
    obtain ⟨m,hm⟩:∃ m:Int,((s[i]).toNat:Int)=m:=⟨_,rfl⟩
    rw [hm] at hJ
    refine rC_cut [0,3] (fun _=>True) (by simp [hk,s3,hi]) ?_
    intro s1 hk1 _
    simp at hk1
    refine rC_seqI (rC_blkI (rC_cut [0,3] (fun s=>s 4 = .bool (decide (97≤m)&&decide (m≤122))) ?_ ?_))
    · by_cases u1:97≤m <;> by_cases u2:m≤122 <;> simp [hk,s3,hk1,hi,hgd,hm,u1,u2]
    intro s2 hk2 s4
    simp at hk2
    refine rC_cut [0,3,4] (fun s=>s 5 = .bool (decide (48≤m)&&decide (m≤57))) ?_ ?_
    · by_cases u1:48≤m <;> by_cases u2:m≤57 <;> simp [hk,s3,hk1,hk2,hi,hgd,hm,u1,u2]
    intro s5 hk5 s55
    simp at hk5
    generalize (decide (97≤m)&&decide (m≤122))=L at *
    generalize (decide (48≤m)&&decide (m≤57))=D at *
    cases L
    · cases D
      · rw [Bool.and_false,Bool.or_false,Bool.false_and] at hJ
        subst hJ
        by_cases h0:i=0
        · subst h0
          simp [hk,s3,hk1,hk2,hk5,s4,s55]
          refine hret _ _ _ ?_
          simp
        · simp [hk,s3,hk1,hk2,hk5,s4,s55,h0]
          refine hret _ _ _ ?_
          simp
      · by_cases h0:i=0
        · subst h0
          simp at hJ
          subst hJ
          simp [hk,s3,hk1,hk2,hk5,s4,s55]
          refine hret _ _ _ ?_
          simp
        · simp [h0] at hJ
          simp [hk,s3,hk1,hk2,hk5,s4,s55,hw,h0]
          exact hR _ (by simp [hk,hk1,hk2,hk5]) (by simp) hJ
    · simp at hJ
      simp [hk,s3,hk1,hk2,hk5,s4,s55,hw]
      exact hR _ (by simp [hk,hk1,hk2,hk5]) (by simp) hJ
  · rintro st h R hk s3 hJ hh _ hX
    simp at hk
    rw [List.drop_eq_nil_of_le (by omega)] at hJ
    refine rC_cut [] (fun _=>False) ?_ (fun _ _ h=>h.elim)
    simp [hk,s3]
    intro _
    refine hX _ _ ?_
    subst hJ
    simp [hk,shapeFrom]
theorem ks_IsValidName (s:Str):Holds Tryz.prog 212 [.str s] (fun r=>r = .bool (okName s)):=by
  refine holds_of_run Tryz.func212 a212_ok rfl (by simp [a212]) ?_
  simp [a212]
  first | refine callD_of (ks_l2Shape s) (by simp) ?_ | refine call_of (ks_l2Shape s) (by simp) ?_ | refine callD_of (ks_l2Shape s) rfl ?_ | refine call_of (ks_l2Shape s) rfl ?_
  rintro r rfl
  unfold okName inR
  cases h1:shapeFrom 0 s
  · simp
  by_cases h2:0<s.length
  case neg=>
    have:s.length=0:=by omega
    simp [this]
  have h2':(1:Int)≤s.length:=by omega
  simp [h2,h2']
  intro _
  by_cases h3:s.length≤8
  case neg=>
    have h3':¬(s.length:Int)≤8:=by omega
    simp [h3,h3']
  have h3':(s.length:Int)≤8:=by omega
  simp [h3,h3',Int.not_lt.2 h3']
  first | refine callD_of (ks_IsReserved s) (by simp) ?_ | refine call_of (ks_IsReserved s) (by simp) ?_ | refine callD_of (ks_IsReserved s) rfl ?_ | refine call_of (ks_IsReserved s) rfl ?_
  rintro r rfl
  simp
theorem beq115 (c:UInt8):((c.toNat:Int)==115)=(c==115):=by
  rw [Bool.eq_iff_iff]
  simp only [beq_iff_eq]
  constructor
  · intro h
    exact UInt8.toNat_inj.1 (by simp; omega)
  · rintro rfl
    rfl
theorem k_IsListName (s:Str):Holds Tryz.prog 64 [.str s] (fun r=>r = .bool (listName s)):=by
  refine holds_of_run Tryz.func64 a64_ok rfl (by simp [a64]) ?_
  simp [a64]
  first | refine callD_of (k_IsValidName s) (by simp) ?_ | refine call_of (k_IsValidName s) (by simp) ?_ | refine callD_of (k_IsValidName s) rfl ?_ | refine call_of (k_IsValidName s) rfl ?_
  rintro r rfl
  unfold listName
  cases h1:okName s
  · simp
  obtain ⟨h2,h3⟩:=okName_len h1
  simp
  intro _
  rw [wrap64 (by omega)]
  have e:((s.length:Int) - 1).toNat=s.length - 1:=by omega
  simp [e]
  refine ⟨by omega,by omega,?_⟩
  exact beq115 _
theorem k_isIntName (s:Str):Holds Tryz.prog 149 [.str s] (fun r=>r = .bool (intName s)):=by
  refine holds_of_run Tryz.func149 a149_ok rfl (by simp [a149]) ?_
  simp [a149]
  first | refine callD_of (k_IsValidName s) (by simp) ?_ | refine call_of (k_IsValidName s) (by simp) ?_ | refine callD_of (k_IsValidName s) rfl ?_ | refine call_of (k_IsValidName s) rfl ?_
  rintro r rfl
  unfold intName
  cases h1:okName s
  · simp
  simp
  first | refine callD_of (k_IsListName s) (by simp) ?_ | refine call_of (k_IsListName s) (by simp) ?_ | refine callD_of (k_IsListName s) rfl ?_ | refine call_of (k_IsListName s) rfl ?_
  rintro r rfl
  simp
theorem ks_IsListName (s:Str):Holds Tryz.prog 143 [.str s] (fun r=>r = .bool (listName s)):=by
  refine holds_of_run Tryz.func143 a143_ok rfl (by simp [a143]) ?_
  simp [a143]
  first | refine callD_of (ks_IsValidName s) (by simp) ?_ | refine call_of (ks_IsValidName s) (by simp) ?_ | refine callD_of (ks_IsValidName s) rfl ?_ | refine call_of (ks_IsValidName s) rfl ?_
  rintro r rfl
  unfold listName
  cases h1:okName s
  · simp
  obtain ⟨h2,h3⟩:=okName_len h1
  simp
  intro _
  rw [wrap64 (by omega)]
  have e:((s.length:Int) - 1).toNat=s.length - 1:=by omega
  simp [e]
  refine ⟨by omega,by omega,?_⟩
  exact beq115 _
theorem ks_l10IntName (s:Str):Holds Tryz.prog 204 [.str s] (fun r=>r = .bool (intName s)):=by
  refine holds_of_run Tryz.func204 a204_ok rfl (by simp [a204]) ?_
  simp [a204]
  first | refine callD_of (ks_IsValidName s) (by simp) ?_ | refine call_of (ks_IsValidName s) (by simp) ?_ | refine callD_of (ks_IsValidName s) rfl ?_ | refine call_of (ks_IsValidName s) rfl ?_
  rintro r rfl
  unfold intName
  cases h1:okName s
  · simp
  simp
  first | refine callD_of (ks_IsListName s) (by simp) ?_ | refine call_of (ks_IsListName s) (by simp) ?_ | refine callD_of (ks_IsListName s) rfl ?_ | refine call_of (ks_IsListName s) rfl ?_
  rintro r rfl
  simp
end Go.Proofs.YtilcageplifbgaaGreat

namespace Go.Proofs.YtilcageplifbgaaGreat
set_option linter.all false
open Go Go.RowKit Go.Proofs
def a247:AFn:=
⟨21,[(.c 6 true 2)],(.seq
 (.reg [⟨some 3,(.boxv (.t 0)),no⟩,⟨some 6,(.box [(.int .i64 0),(.nil 1)]),no⟩]) (.seq
 (.reg [⟨some 8,(.fld 0 (.t 3)),no⟩,⟨some 9,(.ld false 1 (.t 8)),no⟩,⟨some 10,(.mv (.t 1)),no⟩,⟨some 11,(.call (.k (.fn (.func 75) [] [])) [(.t 9),(.t 10)]),no⟩,⟨some 7,(.mv (.t 11)),no⟩]) (.seq (.seq
 (.reg [⟨some 12,(.mv (.t 7)),no⟩,⟨some 13,(.bin .lss (.t 12) (.k (.int .i64 0))),no⟩]) (.cond (.t 13) (.seq
 (.reg [⟨some 14,(.mv (.t 2)),no⟩,⟨some 15,(.call (.k (.fn (.func 114) [] [])) [(.k (.int .i64 0)),(.t 14)]),no⟩,⟨no,(.st 2 (.t 6) (.t 15)),no⟩]) .ret) .skip)) (.seq
 (.reg [⟨some 16,(.fld 1 (.t 3)),no⟩,⟨some 17,(.ld false 1 (.t 16)),no⟩,⟨some 18,(.mv (.t 7)),no⟩,⟨some 19,(.ixa 2 (.t 17) (.t 18)),no⟩,⟨some 20,(.ld true 2 (.t 19)),no⟩,⟨no,(.st 2 (.t 6) (.t 20)),no⟩]) .ret))))⟩
theorem a247_ok:compFn Tryz.prog Tryz.f247=some a247:=by kernel_rfl
def a178:AFn:=
⟨19,[(.t 2)],(.seq
 (.reg [⟨some 2,(.mv (.k (.int .i64 0))),no⟩]) (.seq
 (.reg [⟨some 3,(.mv (.k (.int .i64 0))),no⟩]) (.seq (.seq
 (.reg [⟨some 4,(.mv (.k (.int .i64 0))),no⟩]) (.blk 0 (.loop (.seq (.seq
 (.reg [⟨some 5,(.mv (.t 4)),no⟩,⟨some 6,(.mv (.t 0)),no⟩,⟨some 7,(.len false (.t 6)),no⟩,⟨some 8,(.bin .lss (.t 5) (.t 7)),no⟩]) (.cond (.t 8) .skip (.exit 0))) (.seq (.blk 1 (.seq
 (.reg [⟨some 11,(.mv (.t 0)),no⟩,⟨some 12,(.mv (.t 4)),no⟩,⟨some 13,(.ixa 4 (.t 11) (.t 12)),no⟩,⟨some 14,(.fld 1 (.t 13)),no⟩,⟨some 15,(.ld false 1 (.t 14)),no⟩]) (.cond (.t 15)
 (.reg [⟨some 16,(.mv (.t 3)),no⟩,⟨some 17,(.bin .add (.t 16) (.k (.int .i64 1))),no⟩,⟨some 3,(.mv (.t 17)),no⟩]) .skip)))
 (.reg [⟨some 9,(.mv (.t 4)),no⟩,⟨some 10,(.bin .add (.t 9) (.k (.int .i64 1))),no⟩,⟨some 4,(.mv (.t 10)),no⟩])))))) (.seq
 (.reg [⟨some 18,(.mv (.t 3)),no⟩,⟨some 2,(.mv (.t 18)),no⟩]) .ret))))⟩
theorem a178_ok:compFn Tryz.prog Tryz.f178=some a178:=by kernel_rfl
theorem AccV.bwS {b:Nat} {l:List Str} {v:AV} {h:Heap} {n:Nat} (x:AccV b 1 (strsR l) v h n):bw v h=some (.sl 1 (strsR l)):=by
  rcases x with ⟨h1,rfl⟩ | ⟨i,_,_,rfl,hb⟩
  · rw [h1]; rfl
  · simp [hb,List.take_of_length_le]
def valsE (E:SEnv):List DLin:=E.map (·.2)
theorem call_view {P:Program} {f:FuncId} {xs xs':List AV} {h:Heap} {n:Nat} {Qr:AV→Prop} {K:AV→Heap→Nat→Prop} (hh:Holds P f xs' Qr) (hb:bwl xs h=some xs') (hK:∀ r,Qr r→K (dr r) h n):ACall P f xs h n K:=by
  refine ⟨hh.1,fun base w0 w L F vs H hv => ?_⟩
  refine (hh.2 w vs (bwl_sound H xs hv hb)).mono ?_
  rintro e w' ⟨v,r,S,rfl,hq,hcl,hbel,hr,hnd,hS⟩
  obtain ⟨g1,g2⟩:=H.after hbel
  exact ⟨v,dr r,L,n,F,h,rfl,g1,g2,VR_dr _ _ _ (VR_env r v S hcl (fun b hb ho=>absurd (H.own_lt ho) (by have:=(hS b hb).1; omega)) hr),hK r hq⟩
theorem callD_view {P:Program} {f:FuncId} {xs xs':List AV} {h:Heap} {n:Nat} {Qr:AV→Prop} {K:AV→Heap→Nat→Prop} (hh:Holds P f xs' Qr) (hb:bwl xs h=some xs') (hk:∀ r,Qr r→K (dr r) h n):ACall P f xs h n (hK h K):=
  call_view hh hb fun r hr=>⟨hext.refl h,hk r hr⟩
@[simp] theorem drl_ALin (x:DLin):drl (rALin x)=rALin x:=by simp [rALin]
@[simp] theorem drrm_ALin (l:List DLin):drr (l.map rALin)=l.map rALin:=by rw [drr_eq,List.map_map]; exact List.map_congr_left fun x _=>drl_ALin x
@[simp] theorem dtl_ALin (x:DLin) (h:Heap):dtl (rALin x) h=some (rALin x,h):=by simp [rALin]
theorem AccV.bwA {b:Nat} {l:List DLin} {v:AV} {h:Heap} {n:Nat} (x:AccV b 2 (l.map rALin) v h n):bw v h=some (.sl 2 (l.map rALin)):=by
  rcases x with ⟨h1,rfl⟩ | ⟨i,_,_,rfl,hb⟩
  · have:l=[]:=by simpa using h1
    subst this; simp
  · simp [hb,List.take_of_length_le]
def SVs (v:AV) (l:List Str) (h:Heap) (n:Nat):Prop:=v = .sl 1 (strsR l)∨∃ b,AccV b 1 (strsR l) v h n
def SVl (v:AV) (l:List DLin) (h:Heap) (n:Nat):Prop:=v = .sl 2 (l.map rALin)∨∃ b,AccV b 2 (l.map rALin) v h n
theorem SVs.bw {v:AV} {l:List Str} {h h':Heap} {n:Nat} (x:SVs v l h n) (hh:∀ id,id<n→h' id=h id):Go.Proofs.YtilcageplifbgaaGreat.bw v h'=some (.sl 1 (strsR l)):=by
  rcases x with rfl | ⟨b,x⟩
  · simp
  · exact (x.keep (Nat.le_refl _) fun id _ hid _=>hh id hid).bwS
theorem SVs.cell {v:AV} {l:List Str} {h:Heap} {n:Nat} (x:SVs v l h n):isCell v=true:=by
  rcases x with rfl | ⟨b,⟨_,rfl⟩ | ⟨i,_,_,rfl,_⟩⟩ <;> rfl
theorem SVl.cell {v:AV} {l:List DLin} {h:Heap} {n:Nat} (x:SVl v l h n):isCell v=true:=by
  rcases x with rfl | ⟨b,⟨_,rfl⟩ | ⟨i,_,_,rfl,_⟩⟩ <;> rfl
theorem get_idx {x:Str} {E:SEnv} : (idxFrom (fun y=>y==x) (keysE E) 0 = -1∧∀ d,eget d E x=d)∨∃ j:Nat,∃ hj:j<E.length,idxFrom (fun y=>y==x) (keysE E) 0=(j:Int)∧∀ d,eget d E x=(E[j]).2:=by
  have key:∀ (E:SEnv) (k:Nat),(idxFrom (fun y=>y==x) (keysE E) k = -1∧∀ d,eget d E x=d)∨∃ j:Nat,∃ hj:j<E.length,idxFrom (fun y=>y==x) (keysE E) k=((k+j:Nat):Int)∧∀ d,eget d E x=(E[j]).2:=by
    intro E
    induction E with
    | nil=>intro k; exact .inl ⟨rfl,fun _=>rfl⟩
    | cons e E ih=>
      intro k
      simp only [keysE,List.map_cons,idxFrom,eget,List.find?_cons]
      cases hb:e.1==x
      · simp only [Bool.false_eq_true,if_false]
        rcases ih (k+1) with ⟨h1,h2⟩ | ⟨j,hj,h1,h2⟩
        · exact .inl ⟨h1,h2⟩
        · exact .inr ⟨j+1,by simp; omega,by rw [keysE] at h1; rw [h1]; congr 1; omega,by simpa [eget] using h2⟩
      · exact .inr ⟨0,by simp,by simp,fun d=>by simp⟩
  simpa using key E 0
set_option maxRecDepth 20000
set_option maxHeartbeats 2000000
theorem call_get {E:SEnv} {vN vL:AV} {h:Heap} {n N:Nat} {x:Str} (A:SVs vN (keysE E) h n) (B:SVl vL (valsE E) h n) (hE:E.length≤1048576) {K:AV→Heap→Nat→Prop}
    (hK:∀ w h' n',n≤n'→(∀ id,id<n→h' id=h id)→isCell w=true→(∀ H:Heap,(∀ id,id<n'→H id=h' id)→bw w H=some (.sl 1 (intsR (eget (constLin 0 N) E x).Coeffs)))→K (.agg [.int .i64 (eget (constLin 0 N) E x).Const,w]) h' n') :
    ACall Tryz.prog 247 [.agg [vN,vL],.str x,i64 N] h n K:=by
  refine acall_body Tryz.func247 a247_ok rfl (by simp [a247]) ?_
  have ne:¬n=n+1∧¬n+1=n∧¬n=n+1+1∧¬n+1+1=n∧¬n+1=n+1+1∧¬n+1+1=n+1:=by omega
  have fr:∀ id,id<n→¬id=n∧¬id=n+1∧¬id=n+1+1∧¬id=n+2:=by intro id _; omega
  have cN:=A.cell
  have cL:=B.cell
  have hbN:∀ y z,bw vN (upd (upd h n y) (n+1) z)=some (.sl 1 (strsR (keysE E))):=fun y z=>A.bw fun id hid=>by simp [fr id hid]
  simp [a247,-isCell,cN,cL,ne]
  first | refine callD_of (ks_IndexOf (keysE E) x) (by simp [hbN]) ?_ | refine call_of (ks_IndexOf (keysE E) x) (by simp [hbN]) ?_ | refine callD_of (ks_IndexOf (keysE E) x) rfl ?_ | refine call_of (ks_IndexOf (keysE E) x) rfl ?_
  rintro r rfl
  rcases get_idx (x:=x) (E:=E) with ⟨h1,h2⟩ | ⟨j,hj,h1,h2⟩
  · rw [h1]
    rw [h2] at hK
    simp [ne]
    first | refine callD_of (ks_ConstLin 0 N) (by simp) ?_ | refine call_of (ks_ConstLin 0 N) (by simp) ?_ | refine callD_of (ks_ConstLin 0 N) rfl ?_ | refine call_of (ks_ConstLin 0 N) rfl ?_
    rintro r rfl
    simp [rULin,ne]
    refine hK _ _ _ (by omega) (fun id hid=>by simp [fr id hid]) rfl fun H hH => ?_
    have:=hH (n+2) (by omega)
    simp at this
    simp [this]
  · rw [h1]
    rw [h2] at hK
    have hj0:¬(j:Int)<0:=by omega
    have hjv:j<(valsE E).length:=by simpa [valsE] using hj
    have hve:(valsE E)[j]=(E[j]).2:=by simp [valsE]
    rcases B with rfl | ⟨b,⟨hz,rfl⟩ | ⟨i,_,hin,rfl,hib⟩⟩
    · simp [ne,hjv,hj0,hve,rALin]
      exact hK _ _ _ (by omega) (fun id hid=>by simp [fr id hid]) rfl fun H hH=>by simp
    · have:E=[]:=by simpa [valsE] using hz
      subst this; simp at hj
    · have ni:=fr i hin
      simp [ne,hjv,hj0,ni,hib,hve,rALin]
      exact hK _ _ _ (by omega) (fun id hid=>by simp [fr id hid]) rfl fun H hH=>by simp
theorem call_get_in {E:SEnv} {vN vL:AV} {h:Heap} {n N:Nat} {x:Str} {d:DLin} (A:SVs vN (keysE E) h n) (B:SVl vL (valsE E) h n) (hx:x∈keysE E) {K:AV→Heap→Nat→Prop}
    (hK:∀ h' n',n≤n'→(∀ id,id<n→h' id=h id)→K (.agg (rALin (eget d E x))) h' n') :
    ACall Tryz.prog 247 [.agg [vN,vL],.str x,i64 N] h n K:=by
  refine acall_body Tryz.func247 a247_ok rfl (by simp [a247]) ?_
  have ne:¬n=n+1∧¬n+1=n∧¬n=n+1+1∧¬n+1+1=n∧¬n+1=n+1+1∧¬n+1+1=n+1:=by omega
  have fr:∀ id,id<n→¬id=n∧¬id=n+1∧¬id=n+1+1∧¬id=n+2:=by intro id _; omega
  have cN:=A.cell
  have cL:=B.cell
  have hbN:∀ y z,bw vN (upd (upd h n y) (n+1) z)=some (.sl 1 (strsR (keysE E))):=fun y z=>A.bw fun id hid=>by simp [fr id hid]
  simp [a247,-isCell,cN,cL,ne]
  first | refine callD_of (ks_IndexOf (keysE E) x) (by simp [hbN]) ?_ | refine call_of (ks_IndexOf (keysE E) x) (by simp [hbN]) ?_ | refine callD_of (ks_IndexOf (keysE E) x) rfl ?_ | refine call_of (ks_IndexOf (keysE E) x) rfl ?_
  rintro r rfl
  rcases get_idx (x:=x) (E:=E) with ⟨h1,h2⟩ | ⟨j,hj,h1,h2⟩
  · obtain ⟨l,_,hl⟩:=eget_in lin0 hx
    have e1:=hl lin0 []
    have e2:=hl ⟨1,[]⟩ []
    rw [List.append_nil] at e1 e2
    rw [h2] at e1 e2
    rw [←e1] at e2
    simp [lin0] at e2
  · rw [h1]
    rw [h2] at hK
    have hj0:¬(j:Int)<0:=by omega
    have hjv:j<(valsE E).length:=by simpa [valsE] using hj
    have hve:(valsE E)[j]=(E[j]).2:=by simp [valsE]
    rcases B with rfl | ⟨b,⟨hz,rfl⟩ | ⟨i,_,hin,rfl,hib⟩⟩
    · simp [ne,hjv,hj0,hve,rALin]
      exact hK _ _ (by omega) (fun id hid=>by simp [fr id hid])
    · have:E=[]:=by simpa [valsE] using hz
      subst this; simp at hj
    · have ni:=fr i hin
      simp [ne,hjv,hj0,ni,hib,hve,rALin]
      exact hK _ _ (by omega) (fun id hid=>by simp [fr id hid])
theorem ks_l14Cons (l:List DPattern):Holds Tryz.prog 178 [.sl 4 (l.map rAPattern)] (fun r=>r=i64 (consN l)):=by
  refine holds_of_lim Tryz.func178 rfl rfl fun hl => ?_
  simp at hl
  refine holds_of_run Tryz.func178 a178_ok rfl (by simp [a178]) ?_
  simp [a178]
  generalize hT:consN l=T
  refine rL_forS [0] 4 l.length (fun i s=>∃ c:Nat,c≤i∧s 3 = .int .i64 c∧c+consN (l.drop i)=T) (by first | exact hl | exact hl.1) (by simp) ⟨0,by omega,by simp,by simpa using hT⟩ ?_ ?_
  · rintro i st h R hi hg hk s4 hw ⟨c,hc,s3,hJ⟩ hh hR _ _
    simp at hk hh
    rw [List.drop_eq_getElem_cons hi] at hJ
    unfold consN at hJ
    rw [List.filter_cons] at hJ
    have hw2:IntKind.i64.wrap ((c:Int)+1)=(c:Int)+1:=wrap64 (by unfold LIM at hl; omega)
    cases hc2:(l[i]).Cons
    · rw [hc2] at hJ
      simp [hk,s4,hi,s3,hw,rAPattern,hc2]
      try intro _
      exact hR _ (by simp [hk]) (by simp) ⟨c,by omega,by simp [s3],by simpa [consN] using hJ⟩
    · rw [hc2] at hJ
      simp only [if_true,List.length_cons] at hJ
      simp [hk,s4,hi,s3,hw,hw2,rAPattern,hc2]
      try intro _
      exact hR _ (by simp [hk]) (by simp) ⟨c+1,by omega,by simp,by unfold consN; omega⟩
  · rintro st h R hk s4 ⟨c,hc,s3,hJ⟩ hh _ hX
    simp at hk hh
    rw [List.drop_eq_nil_of_le (by omega)] at hJ
    simp [consN] at hJ
    subst hJ
    simp [hk,s4]
    try intro _
    refine hX _ _ ?_
    simp [hk,s3]
end Go.Proofs.YtilcageplifbgaaGreat
