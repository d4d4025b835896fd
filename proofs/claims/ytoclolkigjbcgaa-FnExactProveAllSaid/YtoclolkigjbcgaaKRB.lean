/- R11-R19 -/
import Derived.Test.YtoclolkigjbcgaaKRA
import Derived.Laws.StructEq
import Derived.Laws.Strings
import Derived.Laws.Small
import Derived.Laws.MakeOwn
import Derived.Laws.BytesString
import Derived.Laws.BytesArg
import Derived.IntWalk
import Derived.MapKept
namespace Go.Proofs.Ytoclolkigjbcgaa
set_option linter.all false
open Go Go.RowKit
section
variable {P:Program} {base:Nat} {w0 w:World} {L:Nat→Option Loc} {N:Nat} {F:Nat→List Nat} {h:Heap} {s:Nat→AV} {a:Act} {K:AV→Heap→Nat→Prop}
theorem ok_slcl {t e:TypeId} {i:TypeInfo} {x:Operand} {x':Opd} {lo hi:Option Operand} {lo' hi':Option Opd} (H:HRel base w0 w L N F [] h) (hs:SRel w L N s a.tmps) (hx:∃ t,compX P t x=some x')
   (hlo:match lo,lo' with | some x,some x'=>∃ t,compX P t x=some x' | Option.none,Option.none=>True | _,_=>False)
   (hhi:match hi,hi' with | some x,some x'=>∃ t,compX P t x=some x' | Option.none,Option.none=>True | _,_=>False)
   (ht:P.underlying t=some (.slice e)) (hi2:P.info? e=some i)
   (hK:aop P s h N K (.slc false i.size x' lo' hi')):Gives P (do pure (.value (←Instr.sliceAt t (a.eval x) (lo.map a.eval) (hi.map a.eval) Option.none))) w (Post base w0 w L N K):=by
 obtain ⟨t',hx⟩:=hx
 have hv:=compX_sound hx hs
 have run:∀ (A:Option Addr) (n cap:Nat) (a' b':Int),a.eval x = .slice A n cap→((lo=Option.none∧a'=0)∨∃ x k,lo=some x∧a.eval x = .int k a') →
     ((hi=Option.none∧b'=n)∨∃ x k,hi=some x∧a.eval x = .int k b')→0≤a'→a'≤b'→b'≤n→n≤cap →
     (Instr.sliceAt t (a.eval x) (lo.map a.eval) (hi.map a.eval) Option.none).run P w = .ok (.slice (if cap=a'.toNat then A else A.map (·.add (a'.toNat*i.size))) (b'.toNat - a'.toNat) (cap - a'.toNat)) w:=fun A n cap a' b' he h1 h2 h3 h4 h5 h6=>by
   have r:=run_bounds (P:=P) (a:=a) (isS:=true) (len:=n) (cap:=cap) h1 h2 h3 h4 h5 h6 w
   simp [Instr.sliceAt,Instr.slice,run_underlying ht,he,r,sizeOf,typeInfo,hi2]
 simp only [aop] at hK
 split at hK
 · rename_i hb _; cases hb
 · rename_i sz rows _ hev
   rw [hev] at hv
   simp only [VR] at hv
   obtain ⟨⟨A,cap,vals,he,⟨hlim,hcap⟩,hr,hb⟩,_⟩:=hv
   unfold onO at hK
   split at hK
   · rename_i a' ha
     split at hK
     · rename_i b' hb'
       obtain ⟨rfl,h0,h1,h2,hK⟩:=hK
       have r:=run A rows.length cap a' b' he (lowOf_sound hs hlo ha) (lowOf_sound hs hhi hb') h0 h1 h2 hcap
       have hlen:((rows.take b'.toNat).drop a'.toNat).length=b'.toNat - a'.toNat:=by simp only [List.length_drop,List.length_take]; omega
       refine .of_value (v := .slice (if cap=a'.toNat then A else A.map (·.add (a'.toNat*i.size))) (b'.toNat - a'.toNat) (cap - a'.toNat)) (w':=w) (by simp [r]) (Post.same H ?_ hK)
       rw [List.drop_take] at hlen ⊢
       obtain ⟨v1,v2,S1,S2,rfl,hS,g1,g2⟩:=VRr_take a'.toNat hr
       obtain ⟨rfl,rfl⟩:=List.append_eq_nil_iff.1 hS.symm
       obtain ⟨v3,v4,S3,S4,rfl,hS',g3,g4⟩:=VRr_take (b'.toNat - a'.toNat) g2
       obtain ⟨rfl,rfl⟩:=List.append_eq_nil_iff.1 hS'.symm
       simp only [VR]
       refine ⟨⟨_,_,v3,by rw [hlen],by rw [hlen]; exact ⟨by omega,by omega⟩,g3,?_⟩,trivial⟩
       by_cases h00:b'.toNat - a'.toNat=0
       · left; rw [h00,List.take_zero]
       · right
         rcases hb with rfl | ⟨b,o,rfl,ho,hb,hsz,hc,hone⟩
         · simp at h2; omega
         · have hv1:v1.length=a'.toNat*i.size:=by
             rw [VRr_length (fun r hr=>hsz r (List.mem_of_mem_take hr)) g1,List.length_take,Nat.min_eq_left (by omega)]
           refine ⟨b,o+a'.toNat*i.size,?_,ho,hb,fun r hr=>hsz r (List.mem_of_mem_drop (List.mem_of_mem_take hr)),?_,fun v hv=>hone v (by simp [hv])⟩
           · rw [if_neg (by omega)]; simp [addr_add]
           · intro j v hj
             rw [←hv1,Nat.add_assoc]
             exact hc (v1.length+j) v (by rw [List.getElem?_append_right (by omega),Nat.add_sub_cancel_left,List.getElem?_append_left (List.getElem?_eq_some_iff.1 hj).1]; exact hj)
     · exact hK.elim
   · exact hK.elim
 · rename_i id off len _ hev
   rw [hev] at hv
   unfold onO at hK
   split at hK
   · rename_i a' ha
     split at hK
     · rename_i b' hb'
       obtain ⟨h0,h1,h2,hK⟩:=hK
       split at hK
       · rename_i B hB
         obtain ⟨hsz,hK⟩:=hK
         simp only [VR] at hv
         cases hl:L id with
         | none=>rw [H.mod id hl] at hB; cases hB
         | some l=>
           have hp:=hv.1.2.2 l hl
           have hbr:=H.blk id B l hB hl
           have hab:(b' - a').toNat=b'.toNat - a'.toNat:=by omega
           cases l with
           | none=>
             obtain ⟨hlim,rfl,rfl,he⟩:=hp
             have r:=run Option.none 0 0 a' b' he (lowOf_sound hs hlo ha) (lowOf_sound hs hhi hb') h0 h1 h2 (Nat.le_refl _)
             have ha0:a'=0:=by omega
             have hb0:b'=0:=by omega
             subst ha0; subst hb0
             refine .of_value (v := .slice Option.none 0 0) (w':=w) (by rw [Sem.run_bind,r]; rfl) (Post.same H ?_ hK)
             simp only [VR]
             refine ⟨⟨hv.1.1,rfl,fun l' hl' => ?_⟩,trivial⟩
             rw [hl] at hl'; cases hl'
             exact ⟨Nat.zero_le _,rfl,rfl,rfl⟩
           | «at» b sz cap=>
             obtain ⟨rfl,_⟩:=hbr
             obtain ⟨hlim,A,he,hA,hcap⟩:=hp
             have r:=run A len (cap - off) a' b' he (lowOf_sound hs hlo ha) (lowOf_sound hs hhi hb') h0 h1 h2 (by omega)
             refine .of_value (v := .slice (if cap - off=a'.toNat then A else A.map (·.add (a'.toNat*i.size))) (b'.toNat - a'.toNat) (cap - off - a'.toNat)) (w':=w) (by simp [r]) (Post.same H ?_ hK)
             simp only [VR]
             refine ⟨⟨hv.1.1,rfl,fun l' hl' => ?_⟩,trivial⟩
             rw [hl] at hl'; cases hl'
             refine ⟨by omega,(if cap - off=a'.toNat then A else A.map (·.add (a'.toNat*i.size))),by rw [hab,Nat.sub_sub],?_,by omega⟩
             rintro (hlt | h00)
             · have:=hA (.inl (by omega))
               subst this
               rw [if_neg (by omega)]; simp [addr_add,←hsz,Nat.add_mul]
             · have:=hA (.inr (by omega))
               subst this
               have ha0:a'.toNat=0:=by omega
               have ho0:off=0:=by omega
               rw [ha0,ho0]; simp [addr_add]
       · exact hK.elim
     · exact hK.elim
   · exact hK.elim
 · rename_i sz _ hev
   rw [hev] at hv
   simp only [VR] at hv
   unfold onO at hK
   split at hK
   · rename_i a' ha
     split at hK
     · rename_i b' hb'
       obtain ⟨rfl,rfl,hK⟩:=hK
       have r:=run Option.none 0 0 0 0 hv.1 (lowOf_sound hs hlo ha) (lowOf_sound hs hhi hb') (Int.le_refl _) (Int.le_refl _) (by simp) (Nat.le_refl _)
       exact .of_value (v := .slice Option.none 0 0) (w':=w) (by rw [Sem.run_bind,r]; rfl) (Post.same H (by simp [VR]) hK)
     · exact hK.elim
   · exact hK.elim
 · exact hK.elim
theorem ok_bin {op:BinOp} {t u:TypeId} {x y:Operand} {x' y':Opd} (H:HRel base w0 w L N F [] h) (hs:SRel w L N s a.tmps) (hx:compX P t x=some x') (hy:compX P u y=some y')
   (hK:aop P s h N K (.bin op x' y')):Gives P (do pure (.value (←(do eqGuard op t x y (a.eval x) (a.eval y); binOp op t (a.eval x) (a.eval y))))) w (Post base w0 w L N K):=by
 have hv:=compX_sound hx hs
 have hu:=compX_sound hy hs
 simp only [aop] at hK
 split at hK
 · rename_i k m k' n hev hew
   rw [VR_int hev hv,VR_int hew hu]
   obtain ⟨rfl,hK⟩:=hK
   have hg:(eqGuard op t x y (.int k m) (.int k n)).run P w = .ok () w:=by cases op <;> simp [eqGuard]
   split at hK
   · obtain ⟨hn,hK⟩:=hK
     exact .of_value (v := .int k (k.wrap (m.tdiv n))) (w':=w) (by simp [hg,binOp,Op.intDiv,hn]) (Post.same H (mk_int _ _) hK)
   · obtain ⟨hn,hK⟩:=hK
     exact .of_value (v := .int k (m.tmod n)) (w':=w) (by simp [hg,binOp,Op.intDiv,hn]) (Post.same H (mk_int _ _) hK)
   · rename_i hq hr
     unfold onO at hK
     split at hK
     · rename_i r hr'
       cases op <;> simp only [binI,Option.some.injEq,reduceCtorEq] at hr' <;> subst hr'
       · exact .of_value (v := .int k (k.wrap (m+n))) (w':=w) (by simp [hg,binOp,Op.intArith]) (Post.same H (mk_int _ _) hK)
       · exact .of_value (v := .int k (k.wrap (m - n))) (w':=w) (by simp [hg,binOp,Op.intArith]) (Post.same H (mk_int _ _) hK)
       · exact .of_value (v := .int k (k.wrap (m*n))) (w':=w) (by simp [hg,binOp,Op.intArith]) (Post.same H (mk_int _ _) hK)
       · exact .of_value (v := .int k (Go.bits .and k m n)) (w':=w) (by simp [hg,binOp,intBits_and]) (Post.same H (mk_int _ _) hK)
       · exact .of_value (v := .int k (Go.bits .or k m n)) (w':=w) (by simp [hg,binOp,intBits_or]) (Post.same H (mk_int _ _) hK)
       · exact .of_value (v := .int k (Go.bits .xor k m n)) (w':=w) (by simp [hg,binOp,intBits_xor]) (Post.same H (mk_int _ _) hK)
       · exact .of_value (v := .bool (m==n)) (w':=w) (by simp [hg,binOp,Op.intCmp]) (Post.same H (mk_bool _) hK)
       · exact .of_value (v := .bool (m != n)) (w':=w) (by simp [hg,binOp,Op.intCmp]) (Post.same H (mk_bool _) hK)
       · exact .of_value (v := .bool (decide (m<n))) (w':=w) (by simp [hg,binOp,Op.intCmp]) (Post.same H (mk_bool _) hK)
       · exact .of_value (v := .bool (decide (m≤n))) (w':=w) (by simp [hg,binOp,Op.intCmp]) (Post.same H (mk_bool _) hK)
       · exact .of_value (v := .bool (decide (m>n))) (w':=w) (by simp [hg,binOp,Op.intCmp]) (Post.same H (mk_bool _) hK)
       · exact .of_value (v := .bool (decide (m≥n))) (w':=w) (by simp [hg,binOp,Op.intCmp]) (Post.same H (mk_bool _) hK)
     · exact hK.elim
 · rename_i l l' hev hew
   obtain ⟨b,he,hb,hlim⟩:=VR_str hev hv
   obtain ⟨b',he',hb',hlim'⟩:=VR_str hew hu
   rw [he,he']
   have hg:(eqGuard op t x y (.string b) (.string b')).run P w = .ok () w:=by cases op <;> simp [eqGuard]
   split at hK
   · obtain ⟨hlen,hK⟩:=hK
     have h1:b.size=l.length:=by rw [←hb]; simp
     have h2:b'.size=l'.length:=by rw [←hb']; simp
     refine .of_value (v := .string (b++b')) (w':=w) ?_ (Post.same H (mk_str (by simp [hb,hb']) (by simpa using hlen)) hK)
     have hmax:IntKind.i64.max=9223372036854775807:=by decide
     have:¬((b.size:Int)+(b'.size:Int)>IntKind.i64.max):=by
       rw [h1,h2,hmax]
       simp only [LIM] at hlen
       omega
     have this':(b.size:Int)+(b'.size:Int)≤9223372036854775807:=by rw [hmax] at this; omega
     simp [hg,binOp,Op.stringOp,this']
   · unfold onO at hK
     split at hK
     · rename_i r hr'
       have e1:b.toList=l:=by rw [_root_.Go.ByteArray.toList_eq,hb]
       have e2:b'.toList=l':=by rw [_root_.Go.ByteArray.toList_eq,hb']
       cases op <;> simp only [binS,Option.some.injEq,reduceCtorEq] at hr' <;> subst hr'
       · exact .of_value (v := .bool (l==l')) (w':=w) (by simp [hg,binOp,Op.stringOp,e1,e2]) (Post.same H (mk_bool _) hK)
       · exact .of_value (v := .bool (!(l==l'))) (w':=w) (by simp [hg,binOp,Op.stringOp,e1,e2]) (Post.same H (mk_bool _) hK)
       · exact .of_value (v := .bool (Op.bytesLess l l')) (w':=w) (by simp [hg,binOp,Op.stringOp,e1,e2]) (Post.same H (mk_bool _) hK)
       · exact .of_value (v := .bool (Op.bytesLess l l'||l==l')) (w':=w) (by simp [hg,binOp,Op.stringOp,e1,e2]) (Post.same H (mk_bool _) hK)
       · exact .of_value (v := .bool (!(Op.bytesLess l l'||l==l'))) (w':=w) (by simp [hg,binOp,Op.stringOp,e1,e2]) (Post.same H (mk_bool _) hK)
       · exact .of_value (v := .bool (!(Op.bytesLess l l'))) (w':=w) (by simp [hg,binOp,Op.stringOp,e1,e2]) (Post.same H (mk_bool _) hK)
     · exact hK.elim
 · exact hK.elim
theorem ok_beq {op:BinOp} {neg:Bool} {t u:TypeId} {x y:Operand} {x' y':Opd} (H:HRel base w0 w L N F [] h) (hs:SRel w L N s a.tmps) (hx:compX P t x=some x') (hy:compX P u y=some y')
   (hub:P.underlying t=some .bool) (hop:op=if neg then .neq else .eql)
   (hK:aop P s h N K (.beq neg x' y')):Gives P (do pure (.value (←(do eqGuard op t x y (a.eval x) (a.eval y); binOp op t (a.eval x) (a.eval y))))) w (Post base w0 w L N K):=by
 have hv:=compX_sound hx hs
 have hu:=compX_sound hy hs
 simp only [aop] at hK
 split at hK
 · rename_i c c' hev hew
   rw [VR_bool hev hv,VR_bool hew hu]
   cases neg
   · simp only [Bool.false_eq_true,if_false] at hop hK
     subst hop
     exact .of_value (v := .bool (c==c')) (w':=w) (by simp [eqGuard,run_eql_bool w t c c' hub]) (Post.same H (mk_bool _) hK)
   · simp only [if_true] at hop hK
     subst hop
     exact .of_value (v := .bool (!(c==c'))) (w':=w) (by simp [eqGuard,run_neq_bool w t c c' hub]) (Post.same H (mk_bool _) hK)
 · exact hK.elim
theorem run_equal_nil {P:Program} {t e:TypeId} {A:Option Addr} {l c:Nat} {w:World} (hu:P.underlying t=some (.slice e)):(Op.equal t (.slice A l c) (.slice Option.none 0 0)).run P w = .ok A.isNone w:=by
 show (Op.equalIn (9999+1) t (.slice A l c) (.slice Option.none 0 0)).run P w = .ok A.isNone w
 unfold Op.equalIn
 rw [Sem.run_bind,run_underlying hu]
 cases A <;> rfl
theorem ok_inil {op:BinOp} {neg:Bool} {t u e:TypeId} {x y:Operand} {x':Opd} {z:Nat} (H:HRel base w0 w L N F [] h) (hs:SRel w L N s a.tmps) (hx:compX P t x=some x') (hy:compX P u y=some (.k (.nil z)))
   (hut:P.underlying t=some (.slice e)) (hop:op=if neg then .neq else .eql)
   (hK:aop P s h N K (.inil neg x')):Gives P (do pure (.value (←(do eqGuard op t x y (a.eval x) (a.eval y); binOp op t (a.eval x) (a.eval y))))) w (Post base w0 w L N K):=by
 have hv:=compX_sound hx hs
 have hu:=compX_sound hy hs
 simp only [ev,VR] at hu
 rw [hu.1]
 have run:∀ (A:Option Addr) (l c:Nat),a.eval x = .slice A l c→((do pure (Next.value (←(do eqGuard op t x y (a.eval x) (.slice Option.none 0 0); binOp op t (a.eval x) (.slice Option.none 0 0))))):Sem Next).run P w = .ok (.value (.bool (if neg then !A.isNone else A.isNone))) w:=by
   intro A l c he
   rw [he]
   subst hop
   cases neg <;> simp [eqGuard,binOp,run_equal_nil hut]
 simp only [aop] at hK
 split at hK
 · rename_i sz rows hev
   rw [hev] at hv
   simp only [VR] at hv
   obtain ⟨⟨A,cap,vals,he,_,_,hb⟩,_⟩:=hv
   refine .of_value (run A _ _ he) (Post.same H (mk_bool _) ?_)
   rcases hb with hb | ⟨b,o,rfl,_⟩
   · cases A with
     | none=>cases neg <;> exact hK.1 hb
     | some A=>cases neg <;> exact hK.2
   · cases neg <;> exact hK.2
 · rename_i sz hev
   rw [hev] at hv
   simp only [VR] at hv
   refine .of_value (run Option.none 0 0 hv.1) (Post.same H (mk_bool _) ?_)
   cases neg <;> exact hK
 · rename_i id off len hev
   rw [hev] at hv
   simp only [VR] at hv
   obtain ⟨hsome,hK⟩:=hK
   obtain ⟨B,hB⟩:=Option.isSome_iff_exists.1 hsome
   cases hl:L id with
   | none=>rw [H.mod id hl] at hB; cases hB
   | some l=>
     have hr:=hv.1.2.2 l hl
     cases l with
     | none=>
       obtain ⟨_,_,hl0,he⟩:=hr
       refine .of_value (run Option.none 0 0 he) (Post.same H (mk_bool _) ?_)
       cases neg <;> exact hK.1 hl0
     | «at» b sz cap=>
       obtain ⟨_,A,he,hA,_⟩:=hr
       refine .of_value (run A _ _ he) (Post.same H (mk_bool _) ?_)
       by_cases hlen:0<len
       · rw [hA (.inl hlen)]
         cases neg <;> exact hK.2
       · cases A with
         | none=>cases neg <;> exact hK.1 (by omega)
         | some A=>cases neg <;> exact hK.2
 · exact hK.elim
def kindsOf (P:Program):Nat→List Field→Option (List Nat)
 | _,[]=>some []
 | off,f::fl=>if f.offset=off∧f.name ≠ "_" ∧ aggB P f.type=some false then match P.underlying f.type with
   | some (.int _)=>(kindsOf P (off+1) fl).map (0 :: ·)
   | some .string=>(kindsOf P (off+1) fl).map (1 :: ·)
   | some .bool=>(kindsOf P (off+1) fl).map (2 :: ·)
   | _=>Option.none
   else Option.none
theorem run_part_scal {P:Program} {t:TypeId} {xs:Array Value} {off:Nat} {v:Value} {w:World} (hg:aggB P t=some false) (hx:xs[off]? = some v):(part t xs off).run P w = .ok v w:=by
 simp only [part,Sem.run_bind,run_isAgg hg,Result.andThen_ok,Bool.false_eq_true,if_false,hx,Sem.run_pure]
theorem drop_cons {α:Type} {l:List α} {i:Nat} {a:α} {m:List α} (h:l.drop i=a::m):l[i]? = some a∧l.drop (i+1)=m:=by
 refine ⟨?_,?_⟩
 · rw [←List.head?_drop,h]; rfl
 · rw [←List.drop_drop,h]; rfl
theorem eqK0 {ks:List Nat} {as bs:List AV} {r:Bool} (h:eqK (0::ks) as bs=some r):∃ k a as' b bs' r',as = .int k a::as'∧bs = .int k b::bs'∧eqK ks as' bs'=some r'∧r=((a==b)&&r'):=by
 rcases as with _ | ⟨x,as⟩
 · simp [eqK] at h
 rcases bs with _ | ⟨y,bs⟩
 · cases x <;> simp [eqK] at h
 cases x <;> (try (simp [eqK] at h; done))
 cases y <;> (try (simp [eqK] at h; done))
 rename_i k a k' b
 simp only [eqK] at h
 split at h
 · rename_i hkk
   subst hkk
   simp only [Option.map_eq_some_iff] at h
   obtain ⟨r',h1,rfl⟩:=h
   exact ⟨k,a,as,b,bs,r',rfl,rfl,h1,rfl⟩
 · cases h
theorem eqK1 {ks:List Nat} {as bs:List AV} {r:Bool} (h:eqK (1::ks) as bs=some r):∃ a as' b bs' r',as = .str a::as'∧bs = .str b::bs'∧eqK ks as' bs'=some r'∧r=((a==b)&&r'):=by
 rcases as with _ | ⟨x,as⟩
 · simp [eqK] at h
 rcases bs with _ | ⟨y,bs⟩
 · cases x <;> simp [eqK] at h
 cases x <;> (try (simp [eqK] at h; done))
 cases y <;> (try (simp [eqK] at h; done))
 rename_i a b
 simp only [eqK,Option.map_eq_some_iff] at h
 obtain ⟨r',h1,rfl⟩:=h
 exact ⟨a,as,b,bs,r',rfl,rfl,h1,rfl⟩
theorem eqK2 {ks:List Nat} {as bs:List AV} {r:Bool} (h:eqK (2::ks) as bs=some r):∃ a as' b bs' r',as = .bool a::as'∧bs = .bool b::bs'∧eqK ks as' bs'=some r'∧r=((a==b)&&r'):=by
 rcases as with _ | ⟨x,as⟩
 · simp [eqK] at h
 rcases bs with _ | ⟨y,bs⟩
 · cases x <;> simp [eqK] at h
 cases x <;> (try (simp [eqK] at h; done))
 cases y <;> (try (simp [eqK] at h; done))
 rename_i a b
 simp only [eqK,Option.map_eq_some_iff] at h
 obtain ⟨r',h1,rfl⟩:=h
 exact ⟨a,as,b,bs,r',rfl,rfl,h1,rfl⟩
theorem run_eqFields {P:Program} {w:World} {L:Nat→Option Loc} {N d:Nat} : ∀ (fl:List Field) (off:Nat) (ks:List Nat) (as bs:List AV) (xs ys:Array Value) (r:Bool),kindsOf P off fl=some ks →
   VRl w L N as (xs.toList.drop off) []→VRl w L N bs (ys.toList.drop off) []→eqK ks as bs=some r→(Op.eqFields (d+1) xs ys fl).run P w = .ok r w
 | [],off,ks,as,bs,xs,ys,r,hk,ha,hb,hr=>by
   simp only [kindsOf,Option.some.injEq] at hk
   subst hk
   unfold eqK at hr
   split at hr <;> simp_all [Op.eqFields]
 | f::fl,off,ks,as,bs,xs,ys,r,hk,ha,hb,hr=>by
   unfold kindsOf at hk
   split at hk
   · rename_i hc
     obtain ⟨hoff,hnm,hg⟩:=hc
     have go:∀ (ks':List Nat) (a b:AV) (as' bs':List AV) (e r':Bool),kindsOf P (off+1) fl=some ks'→as=a::as'→bs=b::bs'→eqK ks' as' bs'=some r'→r=(e&&r') →
         (∀ u v,VR w L N a u []→VR w L N b v []→(Op.equalIn (d+1) f.type u v).run P w = .ok e w)→(Op.eqFields (d+1) xs ys (f::fl)).run P w = .ok r w:=by
       intro ks' a b as' bs' e r' hk' has hbs hr' hre heq
       rw [has] at ha
       rw [hbs] at hb
       obtain ⟨u,us,hxs,hu,hus⟩:=VRl_nil_cons.1 ha
       obtain ⟨v,vs,hys,hv,hvs⟩:=VRl_nil_cons.1 hb
       obtain ⟨h1,h1'⟩:=drop_cons hxs
       obtain ⟨h2,h2'⟩:=drop_cons hys
       have h1:xs[f.offset]? = some u:=by rw [hoff,←Array.getElem?_toList]; exact h1
       have h2:ys[f.offset]? = some v:=by rw [hoff,←Array.getElem?_toList]; exact h2
       simp only [Op.eqFields,if_pos hnm,Sem.run_bind,run_part_scal hg h1,run_part_scal hg h2,Result.andThen_ok,heq u v hu hv,Sem.run_ite]
       cases e
       · rw [hre]; simp
       · rw [hre]
         simp only [Bool.not_true,Bool.false_eq_true,if_false,Bool.true_and]
         exact run_eqFields fl (off+1) ks' as' bs' xs ys r' hk' (by rw [h1']; exact hus) (by rw [h2']; exact hvs) hr'
     split at hk <;> try cases hk
     · rename_i k hu
       simp only [Option.map_eq_some_iff] at hk
       obtain ⟨ks',hk',rfl⟩:=hk
       obtain ⟨k',a,as',b,bs',r',h1,h2,h3,h4⟩:=eqK0 hr
       refine go ks' _ _ as' bs' _ r' hk' h1 h2 h3 h4 fun u v hu' hv' => ?_
       simp only [VR] at hu' hv'
       rw [hu'.1,hv'.1]
       exact run_equalIn_int w d f.type k' k a b hu
     · rename_i hu
       simp only [Option.map_eq_some_iff] at hk
       obtain ⟨ks',hk',rfl⟩:=hk
       obtain ⟨a,as',b,bs',r',h1,h2,h3,h4⟩:=eqK1 hr
       refine go ks' _ _ as' bs' _ r' hk' h1 h2 h3 h4 fun u v hu' hv' => ?_
       simp only [VR] at hu' hv'
       obtain ⟨⟨x,rfl,hx,_⟩,_⟩:=hu'
       obtain ⟨⟨y,rfl,hy,_⟩,_⟩:=hv'
       have:=run_equalIn_string w d f.type x y hu
       rwa [_root_.Go.ByteArray.toList_eq,_root_.Go.ByteArray.toList_eq,hx,hy] at this
     · rename_i hu
       simp only [Option.map_eq_some_iff] at hk
       obtain ⟨ks',hk',rfl⟩:=hk
       obtain ⟨a,as',b,bs',r',h1,h2,h3,h4⟩:=eqK2 hr
       refine go ks' _ _ as' bs' _ r' hk' h1 h2 h3 h4 fun u v hu' hv' => ?_
       simp only [VR] at hu' hv'
       rw [hu'.1,hv'.1]
       exact run_equalIn_bool' w d f.type a b hu
   · cases hk
theorem ok_aeq {op:BinOp} {neg:Bool} {t u:TypeId} {x y:Operand} {x' y':Opd} {fs:Array Field} {ks:List Nat} (H:HRel base w0 w L N F [] h) (hs:SRel w L N s a.tmps) (hx:compX P t x=some x') (hy:compX P u y=some y')
   (hut:P.underlying t=some (.struct fs)) (hks:kindsOf P 0 fs.toList=some ks) (hst:P.stoodInHeld t=false) (hgd:P.eqGuardType P.depth t=false) (hop:op=if neg then .neq else .eql)
   (hK:aop P s h N K (.aeq neg ks x' y')):Gives P (do pure (.value (←(do eqGuard op t x y (a.eval x) (a.eval y); binOp op t (a.eval x) (a.eval y))))) w (Post base w0 w L N K):=by
 have hv:=compX_sound hx hs
 have hu:=compX_sound hy hs
 simp only [aop] at hK
 split at hK
 · rename_i as bs hev hew
   rw [hev] at hv
   rw [hew] at hu
   simp only [VR] at hv hu
   obtain ⟨xs,he,hxs⟩:=hv
   obtain ⟨ys,he',hys⟩:=hu
   rw [he,he']
   unfold onO at hK
   split at hK
   · rename_i r hr
     have hf:P.fieldsOf t=fs:=by simp [Program.fieldsOf,hut]
     have heq:(Op.equalIn 10000 t (.agg xs) (.agg ys)).run P w = .ok r w:=by
       rw [show (10000:Nat)=9999+1 from rfl,run_equalIn_struct w 9999 t xs ys (by rw [hf]; exact hut) hst,hf]
       exact run_eqFields (d:=9998) fs.toList 0 ks as bs xs ys r hks (by simpa using hxs) (by simpa using hys) hr
     subst hop
     cases neg
     · simp only [Bool.false_eq_true,if_false] at hK ⊢
       refine .of_value (v := .bool r) (w':=w) ?_ (Post.same H (mk_bool _) hK)
       simp only [Sem.run_bind,run_eqGuard_agg w _ _ _ _ _ _ hgd,Result.andThen_ok,run_eql_struct,heq,Sem.run_pure]
     · simp only [if_true] at hK ⊢
       refine .of_value (v := .bool (!r)) (w':=w) ?_ (Post.same H (mk_bool _) hK)
       simp only [Sem.run_bind,run_eqGuard_agg w _ _ _ _ _ _ hgd,Result.andThen_ok,run_neq_struct,heq,Sem.run_pure]
   · exact hK.elim
 · exact hK.elim
end
open Go Go.RowKit
section
variable {P:Program} {base:Nat} {w0 w:World} {L:Nat→Option Loc} {N:Nat} {F:Nat→List Nat} {E:List Nat} {h:Heap} {s:Nat→AV} {a:Act} {K:AV→Heap→Nat→Prop}
theorem ok_mnx {t:TypeId} {x y:Operand} {x' y':Opd} {b mx:Bool} {ts:Array TypeId} {ty:TypeId} (H:HRel base w0 w L N F [] h) (hs:SRel w L N s a.tmps) (hx:compX P t x=some x') (hy:compX P t y=some y')
   (hb:b=mx) (hK:aop P s h N K (.mnx mx x' y')):Gives P (do pure (.value (←(if b then Builtin.max_ ts ty #[a.eval x,a.eval y] else Builtin.min_ ts ty #[a.eval x,a.eval y])))) w (Post base w0 w L N K):=by
 have hv:=compX_sound hx hs
 have hu:=compX_sound hy hs
 simp only [aop] at hK
 split at hK
 · rename_i k m k' n hev hew
   rw [VR_int hev hv,VR_int hew hu]
   obtain ⟨rfl,hK⟩:=hK
   subst hb
   cases b
   · exact .of_value (v := .int k (if n<m then n else m)) (w':=w) (by simp [run_min_int2]) (Post.same H (mk_int _ _) hK)
   · exact .of_value (v := .int k (if n>m then n else m)) (w':=w) (by simp [run_max_int2]) (Post.same H (mk_int _ _) hK)
 · exact hK.elim
theorem rows_split {rows:List (List AV)} {sz:Nat} {vals:List Value} {S:List Nat} {r:Nat} (hsz:∀ x∈rows,x.length=sz) (hv:VRr w L N rows vals S) (hr:r<rows.length) :
   ∃ v1 v2 v3 S1 S2 S3,vals=v1++(v2++v3)∧S=S1++(S2++S3)∧v1.length=r*sz∧v2.length=sz∧VRl w L N (rowD rows r) v2 S2 ∧
     ∀ row' v2' S2',VRl w L N row' v2' S2'→VRr w L N (rows.set r row') (v1++(v2'++v3)) (S1++(S2'++S3)):=by
 induction rows generalizing vals S r with
 | nil=>simp at hr
 | cons x rows ih=>
   simp only [VRr] at hv
   obtain ⟨u1,u2,T1,T2,rfl,rfl,h1,h2⟩:=hv
   have hl1:u1.length=sz:=by rw [VRl_length h1]; exact hsz x (by simp)
   cases r with
   | zero=>
     refine ⟨[],u1,u2,[],T1,T2,rfl,rfl,by simp,hl1,h1,?_⟩
     intro row' v2' S2' h'
     simp only [List.set_cons_zero,VRr,List.nil_append]
     exact ⟨v2',u2,S2',T2,rfl,rfl,h',h2⟩
   | succ r=>
     obtain ⟨v1,v2,v3,S1,S2,S3,rfl,rfl,g1,g2,g3,g4⟩:=ih (fun y hy=>hsz y (by simp [hy])) h2 (by simpa using hr)
     refine ⟨u1++v1,v2,v3,T1++S1,S2,S3,by simp,by simp,by simp [hl1,g1,Nat.succ_mul,Nat.add_comm],g2,g3,?_⟩
     intro row' v2' S2' h'
     simp only [List.set_cons_succ,VRr]
     exact ⟨u1,_,T1,_,by simp,by simp,h1,g4 row' v2' S2' h'⟩
theorem VRl_splice {row cells:List AV} {vals news:List Value} {S S':List Nat} {c:Nat} (hv:VRl w L N row vals S) (hn:VRl w L N cells news S') (hc:c+cells.length≤row.length) :
   ∃ S1 S3,(∀ x∈S1++S3,x∈S)∧(S.Nodup→(S1++S3).Nodup)∧VRl w L N (splice row c cells) (vals.take c++(news++vals.drop (c+news.length))) (S1++(S'++S3)):=by
 have hnl:=VRl_length hn
 have e:row=row.take c++((row.drop c).take cells.length++row.drop (c+cells.length)):=by
   rw [←List.drop_drop,List.take_append_drop,List.take_append_drop]
 rw [e,VRl_append] at hv
 obtain ⟨v1,v2,S1,S2,rfl,rfl,h1,h2⟩:=hv
 rw [VRl_append] at h2
 obtain ⟨v3,v4,S3,S4,rfl,rfl,h3,h4⟩:=h2
 have l1:v1.length=c:=by rw [VRl_length h1,List.length_take]; omega
 have l3:v3.length=cells.length:=by rw [VRl_length h3,List.length_take,List.length_drop]; omega
 refine ⟨S1,S4,fun x hx => ?_,fun hnd => ?_,?_⟩
 · rcases List.mem_append.1 hx with hx | hx <;> simp [hx]
 · obtain ⟨n1,n2,n3⟩:=List.nodup_append.1 hnd
   obtain ⟨m1,m2,m3⟩:=List.nodup_append.1 n2
   exact List.nodup_append.2 ⟨n1,m2,fun a ha b hb=>n3 a ha b (by simp [hb])⟩
 · have t1:(v1++(v3++v4)).take c=v1:=by rw [←l1]; simp
   have t2:(v1++(v3++v4)).drop (c+news.length)=v4:=by
     rw [←List.append_assoc,hnl,←l1,←l3,←List.length_append]; simp
   rw [t1,t2]
   unfold splice
   rw [List.append_assoc]
   exact VRl_append.2 ⟨v1,_,S1,_,rfl,rfl,h1,VRl_append.2 ⟨news,v4,S',S4,rfl,rfl,hn,h4⟩⟩
theorem splice_length {row cells:List AV} {c:Nat} (hc:c+cells.length≤row.length):(splice row c cells).length=row.length:=by
 unfold splice; simp only [List.length_append,List.length_take,List.length_drop]; omega
theorem HRel.store (H:HRel base w0 w L N F E h) {id r c:Nat} {B:Blk} {v:Value} {cells:List AV} {news:List Value} {S':List Nat} (hB:h id=some B) (hv:VR w L N (.ptr id r c) v [])
   (hr:r<B.rows.length) (hc:c+cells.length≤(rowD B.rows r).length) (hn:VRl w L (if B.box then N else 0) cells news S') (h1:one news)
   (hbox:B.box=true→S'=[]) (hE:E=S') :
   ∃ b o w' F',v = .pointer (some ⟨b,o,Option.none⟩)∧(storeCells ⟨b,o,Option.none⟩ news).run P w = .ok () w' ∧
     HRel base w0 w' L N F' [] (upd h id (some ⟨B.box,B.sz,B.rows.set r (splice (rowD B.rows r) c cells)⟩))∧Ext w L N w' L N:=by
 cases hl:L id with
 | none=>rw [H.mod id hl] at hB; cases hB
 | some l=>
   have hid:=H.lt id l hl
   simp only [VR] at hv
   have hp:=hv.1.2.2 l hl
   have hbr:=H.blk id B l hB hl
   cases l with
   | none=>exact hp.elim
   | «at» b sz cap=>
     obtain ⟨hp,hpos⟩:=hp
     obtain ⟨rfl,h0,cur,t,vals,rest,g1,g2,g3,g4,g5,g6,g7,g8,g9,g10⟩:=hbr.cells hpos
     have hnl:=VRl_length hn
     have hrow:(rowD B.rows r).length=B.sz:=by
       unfold rowD; rw [List.getD_eq_getElem?_getD,List.getElem?_eq_getElem hr]; exact g8 _ (List.getElem_mem _)
     obtain ⟨v1,v2,v3,S1,S2,S3,rfl,hF,l1,l2,k1,k2⟩:=rows_split g8 g10 hr
     obtain ⟨T1,T3,q1,q2,q3⟩:=VRl_splice k1 hn hc
     have hnd:=H.nd id
     have hvals:(v1++(v2++v3)).length≤cur.size:=by rw [←Array.length_toList,g2]; simp
     have hst:=run_storeCells_at P b (r*B.sz+c) t news 0 cur w g1 (by
       simp only [List.length_append] at hvals; omega) h1
     simp only [Nat.add_zero] at hst
     have htake:cur.toList.take (r*B.sz+c)++news++cur.toList.drop (r*B.sz+c+news.length)=(v1++((v2.take c++(news++v2.drop (c+news.length)))++v3))++rest:=by
       rw [g2]
       have e1:(v1++(v2++v3)++rest).take (r*B.sz+c)=v1++v2.take c:=by
         rw [←l1,List.append_assoc,List.take_length_add_append,List.append_assoc,List.take_append_of_le_length (by omega)]
       have e2:(v1++(v2++v3)++rest).drop (r*B.sz+c+news.length)=v2.drop (c+news.length)++v3++rest:=by
         rw [←l1,List.append_assoc,Nat.add_assoc,List.drop_length_add_append,List.append_assoc,List.drop_append_of_le_length (by omega),List.append_assoc]
       rw [e1,e2]; simp
     rw [htake] at hst
     obtain ⟨m1,m2⟩:=H.chg (w':=w.setRow b ((v1++((v2.take c++(news++v2.drop (c+news.length)))++v3))++rest).toArray) (N':=N) (E':=[]) id id ⟨B.box,B.sz,B.rows.set r (splice (rowD B.rows r) c cells)⟩ (.at b B.sz cap)
       (S1++((T1++(S'++T3))++S3)) (Nat.le_refl _) hid (.inl rfl) (fun _=>hl)
       ⟨rfl,rfl,rfl,by simp,fun k hk=>setRow_other w b k _ (fun he=>by have:=H.lo b ⟨id,B.sz,cap,hl⟩; omega)⟩
       (fun b' hb' hne=>setRow_other w b b' _ (fun he=>hne B.sz cap (he ▸ hl)))
       (fun b' sz' cap' he=>by cases he; exact ⟨H.lo b ⟨id,B.sz,cap,hl⟩,by rw [size_setRow]; exact lt_of_heap g1,.inl ⟨B.sz,cap,hl⟩⟩)
       (fun L' e hL'=>by
         refine BRel.of ⟨rfl,fun hbx => ?_,_,t,v1++((v2.take c++(news++v2.drop (c+news.length)))++v3),rest,setRow_heap w b cur _ t (0,0) g1,by simp,?_,g4,g5,by simpa using g6,by simpa using g7,?_,?_,?_⟩
         · have:=h0 hbx
           rw [hF] at this
           simp only [List.append_eq_nil_iff] at this
           obtain ⟨r1,r2,r3⟩:=this
           subst r1 r2 r3
           have hT:T1++T3=[]:=List.eq_nil_iff_forall_not_mem.2 fun y hy=>by simpa using q1 y hy
           simp only [List.append_eq_nil_iff] at hT
           simp [hT.1,hT.2,hbox hbx]
         · have:((v1++((v2.take c++(news++v2.drop (c+news.length)))++v3))++rest).length=cur.toList.length:=by
             rw [g2]; simp only [List.length_append,List.length_take,List.length_drop]; omega
           simp only [List.size_toArray,this,Array.length_toList,g3]
         · intro x hx
           rcases List.mem_or_eq_of_mem_set hx with hx | rfl
           · exact g8 x hx
           · rw [splice_length hc,hrow]
         · intro x hx
           simp only [List.mem_append] at hx
           rcases hx with hx | ⟨hx | hx | hx⟩ | hx
           · exact g9 x (by simp [hx])
           · exact g9 x (by simp [List.mem_of_mem_take hx])
           · exact h1 x hx
           · exact g9 x (by simp [List.mem_of_mem_drop hx])
           · exact g9 x (by simp [hx])
         · have:=k2 _ _ _ q3
           cases hbb:B.box <;> simp only [hbb,if_true,if_false,Bool.false_eq_true] at this ⊢ <;> first | exact VRr_ext e _ _ _ this | exact VRr_ext e.zero _ _ _ this)
       (by
         rw [List.append_nil]
         rw [hF] at hnd
         have hSE:∀ x∈S',x∉F id:=fun x hx hf=>H.de id x hf (hE ▸ hx)
         have hSn:S'.Nodup:=hE ▸ H.ne
         obtain ⟨n1,n2,n3⟩:=List.nodup_append.1 hnd
         obtain ⟨n4,n5,n6⟩:=List.nodup_append.1 n2
         have hT:=q2 n4
         obtain ⟨n7,n8,n9⟩:=List.nodup_append.1 hT
         rw [hF] at hSE
         refine List.nodup_append.2 ⟨n1,List.nodup_append.2 ⟨List.nodup_append.2 ⟨n7,List.nodup_append.2 ⟨hSn,n8,?_⟩,?_⟩,n5,?_⟩,?_⟩
         · rintro x hx y hy rfl; exact hSE x hx (by simp [q1 x (by simp [hy])])
         · rintro x hx y hy rfl
           rcases List.mem_append.1 hy with hy | hy
           · exact hSE x hy (by simp [q1 x (by simp [hx])])
           · exact n9 x hx x hy rfl
         · rintro x hx y hy rfl
           simp only [List.mem_append] at hx
           rcases hx with hx | hx | hx
           · exact n6 x (q1 x (by simp [hx])) x hy rfl
           · exact hSE x hx (by simp [hy])
           · exact n6 x (q1 x (by simp [hx])) x hy rfl
         · rintro x hx y hy rfl
           simp only [List.mem_append] at hy
           rcases hy with (hy | hy | hy) | hy
           · exact n3 x hx x (by simp [q1 x (by simp [hy])]) rfl
           · exact hSE x hy (by simp [hx])
           · exact n3 x hx x (by simp [q1 x (by simp [hy])]) rfl
           · exact n3 x hx x (by simp [hy]) rfl)
       (fun x hx=>by
         simp only [List.append_nil,List.mem_append] at hx
         rw [hF,hE]
         rcases hx with hx | (hx | hx | hx) | hx
         · left; simp [hx]
         · left; simp [q1 x (by simp [hx])]
         · right; exact hx
         · left; simp [q1 x (by simp [hx])]
         · left; simp [hx])
     have hLe:upd (upd L id Option.none) id (some (.at b B.sz cap))=L:=by
       funext i; simp only [upd]; split
       · rename_i hi; rw [hi,hl]
       · rfl
     rw [hLe] at m1 m2
     have hhe:∀ X:Option Blk,upd (upd h id Option.none) id X=upd h id X:=fun X=>by funext i; simp only [upd]; split <;> rfl
     rw [hhe] at m1
     exact ⟨b,r*B.sz+c,_,_,hp,hst,m1,m2⟩
end
open Go Go.RowKit
section
variable {P:Program} {base:Nat} {w0 w:World} {L:Nat→Option Loc} {N:Nat} {F:Nat→List Nat} {E:List Nat} {h:Heap} {s:Nat→AV} {a:Act} {K:AV→Heap→Nat→Prop}
theorem ok_st {t:TypeId} {x y:Operand} {x' y':Opd} {i:TypeInfo} (H:HRel base w0 w L N F [] h) (hs:SRel w L N s a.tmps) (hx:∃ t,compX P t x=some x') (hy:compX P t y=some y')
   (hi:P.info? t=some i) (hK:aop P s h N K (.st i.size x' y')):Gives P (do Instr.storeAt t (a.eval x) (a.eval y); pure .skip) w (Post base w0 w L N K):=by
 obtain ⟨t',hx⟩:=hx
 have hv:=compX_sound hx hs
 have hu:=compX_sound hy hs
 simp only [aop] at hK
 obtain ⟨hlen,hcell,hK⟩:=hK
 obtain ⟨hcs,hone⟩:=VRl_cellsOf hu hcell
 have hcl:=VRl_length hcs
 have run:∀ b o w',a.eval x = .pointer (some ⟨b,o,Option.none⟩)→(storeCells ⟨b,o,Option.none⟩ (a.eval y).cells.toList).run P w = .ok () w' →
     (do Instr.storeAt t (a.eval x) (a.eval y); pure Next.skip:Sem Next).run P w = .ok .skip w':=fun b o w' he hr=>by
   have hsz:(a.eval y).cells.size=i.size:=by rw [←Array.length_toList,hcl,hlen]
   simp [Instr.storeAt,he,Instr.sureAddr,storeVar,sizeOf,typeInfo,hi,hsz,hr]
 split at hK
 · rename_i id r c hev
   rw [hev] at hv
   unfold onO at hK
   split at hK
   · rename_i B hB
     split at hK
     · rename_i hbox
       obtain ⟨hr,hc,hK⟩:=hK
       obtain ⟨b,o,w',F',e1,e2,e3,e4⟩:=H.store (P:=P) hB hv hr (by rw [hlen]; exact hc) (by rw [hbox]; exact hcs) hone (fun _=>rfl) rfl
       rw [hbox] at e3
       exact .of_skip (run b o w' e1 e2) ⟨.tup [],L,N,F',_,e3,e4,by simp [VR,VRl,undef],hK⟩
     · rename_i hbox
       split at hK
       · rename_i q hq
         split at hK
         · rename_i B' hB'
           obtain ⟨hbox',hr,hc,hK⟩:=hK
           obtain ⟨cs',h'⟩:=q
           obtain ⟨L',F',S,g1,g2,g3⟩:=dtl_sound _ H hcs hq
           have hcl':=VRl_length g2
           obtain ⟨b,o,w',F'',e1,e2,e3,e4⟩:=g1.store (P:=P) hB' (VR_ext g3 _ _ _ hv) hr (by rw [←hcl',hcl,hlen]; exact hc) (by rw [hbox']; exact g2) hone (fun hb=>by rw [hbox'] at hb; cases hb) (by simp)
           rw [hbox'] at e3
           exact .of_skip (run b o w' e1 e2) ⟨.tup [],L',N,F'',_,e3,g3.trans e4,by simp [VR,VRl,undef],hK⟩
         · exact hK.elim
       · exact hK.elim
   · exact hK.elim
 · exact hK.elim
theorem drr_len (rs:List (List AV)):(drr rs).length=rs.length:=by rw [drr_eq]; simp
theorem srcRows_sound (H:HRel base w0 w L N F [] h) {y:AV} {v:Value} {sz:Nat} {rows:List (List AV)} {h':Heap} (hv:VR w L N y v []) (hy:srcRows h y=some (sz,rows,h')) :
   ∃ F' S A c news,HRel base w0 w L N F' S h'∧v = .slice A rows.length c∧VRr w L 0 rows news S∧one news∧rows.length≤LIM∧(∀ r∈rows,r.length=sz) ∧
     (rows=[]∨∃ b o,A=some ⟨b,o,Option.none⟩∧cellsAt w b o news):=by
 unfold srcRows at hy
 split at hy
 · simp only [Option.some.injEq,Prod.mk.injEq] at hy
   obtain ⟨rfl,rfl,rfl⟩:=hy
   simp only [VR] at hv
   obtain ⟨⟨A,cap,vals,rfl,⟨hlim,_⟩,hr,hb⟩,_⟩:=hv
   rcases hb with rfl | ⟨b,o,rfl,ho,hb,hsz,hc,hone⟩
   · exact ⟨F,[],A,cap,[],H,rfl,⟨rfl,rfl⟩,by simp [one],hlim,by simp,.inl rfl⟩
   · exact ⟨F,[],_,cap,vals,H,rfl,hr,hone,hlim,hsz,.inr ⟨b,o,rfl,hc⟩⟩
 · simp only [Option.some.injEq,Prod.mk.injEq] at hy
   obtain ⟨rfl,rfl,rfl⟩:=hy
   simp only [VR] at hv
   exact ⟨F,[],Option.none,0,[],H,hv.1,⟨rfl,rfl⟩,by simp [one],Nat.zero_le _,by simp,.inl rfl⟩
 · rename_i id off len
   split at hy
   · rename_i B hB
     split at hy
     · rename_i hc
       simp only [Option.some.injEq,Prod.mk.injEq] at hy
       obtain ⟨rfl,rfl,rfl⟩:=hy
       obtain ⟨hbox,hle⟩:=hc
       simp only [VR] at hv
       cases hl:L id with
       | none=>rw [H.mod id hl] at hB; cases hB
       | some l=>
         have hid:=H.lt id l hl
         have hp:=hv.1.2.2 l hl
         have hbr:=H.blk id B l hB hl
         have hlenT:((B.rows.drop off).take len).length=len:=by simp; omega
         have hLe:upd (upd L id Option.none) id (some l)=L:=by
           funext j; simp only [upd]; split
           · rename_i hj; rw [hj,hl]
           · rfl
         have hhe:∀ X:Option Blk,upd (upd h id Option.none) id X=upd h id X:=fun X=>by funext j; simp only [upd]; split <;> rfl
         cases l with
         | none=>
           obtain ⟨hrows,hF⟩:=hbr
           obtain ⟨_,rfl,rfl,rfl⟩:=hp
           obtain ⟨m1,m2⟩:=H.chg (w':=w) (N':=N) (E':=[]) id id ⟨false,B.sz,drr B.rows⟩ .none [] (Nat.le_refl _) hid (.inl rfl) (fun _=>hl) (Below.refl _ _) (fun _ _ _=>rfl) (fun _ _ _ he=>by cases he)
             (fun L' e hL'=>⟨by simp [hrows,drr],rfl⟩) (by simp) (by simp)
           rw [hLe,hhe] at m1
           refine ⟨_,[],Option.none,0,[],m1,by simp [hrows],by simp [hrows,VRr],by simp [one],by simp [hrows],by simp [hrows],.inl (by simp [hrows])⟩
         | «at» b sz cap=>
           obtain ⟨rfl,h0,cur,t,vals,rest,g1,g2,g3,g4,g5,g6,g7,g8,g9,g10⟩:=hbr.cells (hbr.pos hbox)
           obtain ⟨hlim,A,rfl,hA,hcap⟩:=hp
           have h10:=g10
           simp only [hbox,if_false,Bool.false_eq_true] at h10
           obtain ⟨m1,m2⟩:=H.chg (w':=w) (N':=N) (E':=F id) id id ⟨false,B.sz,drr B.rows⟩ (.at b B.sz cap) [] (Nat.le_refl _) hid (.inl rfl) (fun _=>hl) (Below.refl _ _) (fun _ _ _=>rfl)
             (fun b' sz' cap' he=>by cases he; exact ⟨H.lo b ⟨id,_,_,hl⟩,lt_of_heap g1,.inl ⟨_,_,hl⟩⟩)
             (fun L' e hL'=>BRel.of ⟨rfl,fun _=>rfl,cur,t,vals,rest,g1,g2,g3,g4,g5,by rw [drr_len]; exact g6,by rw [drr_len]; exact g7,by
                 intro r hr
                 rw [drr_eq] at hr
                 obtain ⟨r',hr',rfl⟩:=List.mem_map.1 hr
                 rw [drl_eq,List.length_map]; exact g8 r' hr',g9,by
                 simp only [Bool.false_eq_true,if_false]
                 exact VRr_ext e.zero _ _ _ (VRr_dr _ _ _ h10)⟩) (by simpa using H.nd id) (by simp)
           rw [hLe,hhe] at m1
           obtain ⟨v1,v2,S1,S2,rfl,hS,k1,k2⟩:=VRr_take off h10
           obtain ⟨v3,v4,S3,S4,rfl,hS',k3,k4⟩:=VRr_take len k2
           have hv1:v1.length=off*B.sz:=by
             rw [VRr_length (fun r hr=>g8 r (List.mem_of_mem_take hr)) k1,List.length_take,Nat.min_eq_left (by omega)]
           have hFS:F id=S1++(S3++S4):=by rw [hS,hS']
           have m3:HRel base w0 w L N (upd (upd F id []) id []) S3 (upd h id (some ⟨false,B.sz,drr B.rows⟩)):=
             ⟨m1.below,m1.bsz,m1.dom,m1.mod,m1.lt,m1.inj,m1.lo,m1.blk,m1.fp,fun b' hb'=>m1.ep b' (by rw [hFS]; simp [hb']),m1.nd,by
               have:=m1.ne; rw [hFS] at this; exact (List.nodup_append.1 (List.nodup_append.1 this).2.1).1,m1.dj,fun j b' hb' hx=>m1.de j b' hb' (by rw [hFS]; simp [hx])⟩
           refine ⟨_,S3,A,_,v3,m3,by rw [hlenT],k3,fun v hv=>g9 v (by simp [hv]),by rw [hlenT]; exact hlim,fun r hr=>g8 r (List.mem_of_mem_drop (List.mem_of_mem_take hr)),?_⟩
           by_cases h00:len=0
           · left; rw [h00,List.take_zero]
           · right
             refine ⟨b,off*B.sz,hA (.inl (by omega)),?_⟩
             rw [←hv1]
             exact cells_of_row (pre:=v1) (vals:=v3) (rest:=v4++rest) g1 (by rw [g2]; simp)
     · cases hy
   · cases hy
 · cases hy
end
open Go Go.RowKit
theorem fold_set (v:List Value) (off:Nat):∀ (k:Nat) (cs:Array Value),off+k+v.length≤cs.size →
   ((v.zipIdx k).foldl (fun cs (x:Value×Nat)=>cs.setIfInBounds (off+x.2) x.1) cs).toList=cs.toList.take (off+k)++(v++cs.toList.drop (off+k+v.length)):=by
 induction v with
 | nil=>intro k cs _; simp
 | cons x v ih=>
   intro k cs hle
   simp only [List.length_cons] at hle
   simp only [List.zipIdx_cons,List.foldl_cons]
   rw [ih (k+1) _ (by simp; omega)]
   rw [Array.toList_setIfInBounds]
   have hlt:off+k<cs.toList.length:=by simp; omega
   have e1:(cs.toList.set (off+k) x).take (off+(k+1))=cs.toList.take (off+k)++[x]:=by
     rw [←Nat.add_assoc,List.take_succ_eq_append_getElem (by simpa using hlt)]
     simp [List.take_set_of_le]
   have e2:(cs.toList.set (off+k) x).drop (off+(k+1)+v.length)=cs.toList.drop (off+k+(x::v).length):=by
     rw [List.drop_set_of_lt (by omega)]
     congr 1; simp; omega
   rw [e1,e2]; simp
section
variable {P:Program} {base:Nat} {w0 w:World} {L:Nat→Option Loc} {N:Nat} {F:Nat→List Nat} {E:List Nat} {h:Heap} {s:Nat→AV} {a:Act} {K:AV→Heap→Nat→Prop}
theorem VRl_cellsOf' {x:AV} {v:Value} {S:List Nat} (hv:VR w L N x v S) (hx:x ≠ .undef) (hx2:∀ vs,x ≠ .tup vs):VRl w L N (cellsOf x) v.cells.toList S:=by
 cases x
 case agg cs=>simp only [VR] at hv; obtain ⟨vs,rfl,h⟩:=hv; exact h
 case undef=>exact absurd rfl hx
 case tup vs=>exact absurd rfl (hx2 vs)
 all_goals
   have hone:=oneCell_of_VR hv rfl
   have hcell:v.cells = #[v]:=by cases v <;> first | rfl | (simp [Value.oneCell'] at hone)
   simp only [cellsOf,hcell]
   exact ⟨v,[],S,[],rfl,by simp,hv,rfl,rfl⟩
theorem fill_sound (place:Nat→Option (Nat×Nat)):∀ (rs:List ((Nat×Nat×AV)×(Nat×Value))) (cells:List AV) (cs:Array Value) (out:List AV),
   VRl w L N cells cs.toList []→(∀ r∈rs,place r.2.1=some (r.1.1,r.1.2.1)∧VR w L N r.1.2.2 r.2.2 []∧r.1.2.2 ≠ .undef∧∀ vs,r.1.2.2 ≠ .tup vs)→fillA cells (rs.map (·.1))=some out →
   ∃ o,Instr.fill place cs (rs.map (·.2))=some o∧VRl w L N out o.toList []:=by
 intro rs
 induction rs with
 | nil=>
   intro cells cs out hv hf ho
   simp only [List.map_nil,fillA,Option.some.injEq] at ho
   subst ho
   exact ⟨cs,rfl,hv⟩
 | cons r rs ih=>
   intro cells cs out hv hf ho
   obtain ⟨⟨off,sz,x⟩,⟨i,v⟩⟩:=r
   obtain ⟨h1,h2,h3,h4⟩:=hf _ (List.mem_cons_self ..)
   simp only at h1 h2 h3 h4
   simp only [List.map_cons,fillA] at ho
   split at ho
   · rename_i hc
     have hcell:=VRl_cellsOf' h2 h3 h4
     have hl:=VRl_length hcell
     have hlc:=VRl_length hv
     simp only [Array.length_toList] at hl hlc
     obtain ⟨S1,S3,q1,q2,q3⟩:=VRl_splice hv hcell (by rw [hc.1]; exact hc.2)
     have hS:S1++S3=[]:=List.eq_nil_iff_forall_not_mem.2 fun y hy=>by simpa using q1 y hy
     simp only [List.append_eq_nil_iff] at hS
     simp only [hS.1,hS.2,List.append_nil] at q3
     have hfold:=fold_set v.cells.toList off 0 cs (by simp [hl,hc.1]; omega)
     have he:(v.cells.zipIdx.foldl (fun cs (c,j)=>cs.setIfInBounds (off+j) c) cs).toList=cs.toList.take off++(v.cells.toList++cs.toList.drop (off+v.cells.toList.length)):=by
       rw [←Array.foldl_toList,Array.toList_zipIdx]
       simpa using hfold
     obtain ⟨o,e1,e2⟩:=ih _ (v.cells.zipIdx.foldl (fun cs (c,j)=>cs.setIfInBounds (off+j) c) cs) out (by rw [he]; exact q3) (fun r hr=>hf r (List.mem_cons_of_mem _ hr)) ho
     refine ⟨o,?_,e2⟩
     simp only [List.map_cons,Instr.fill]
     rw [h1]
     simp only []
     rw [if_neg (by simp; constructor <;> omega)]
     exact e1
   · cases ho
end
open Go Go.RowKit
section
variable {P:Program} {base:Nat} {w0 w:World} {L:Nat→Option Loc} {N:Nat} {F:Nat→List Nat} {E:List Nat} {h:Heap} {s:Nat→AV} {a:Act} {K:AV→Heap→Nat→Prop}
def compPart (P:Program) (fields:Array Field) (p:Nat×Operand):Option (Nat×Nat×Opd):=
 match fields[p.1]? with
 | some f=>match P.info? f.type,compX P f.type p.2 with
   | some i,some x=>some (f.offset,i.size,x)
   | _,_=>Option.none
 | Option.none=>Option.none
theorem mapM_zip {α β:Type} (f:α→Option β):∀ (l:List α) (m:List β),l.mapM f=some m→m.length=l.length∧∀ (i:Nat) (x:α) (y:β),l[i]? = some x→m[i]? = some y→f x=some y
 | [],m,h=>by simp at h; subst h; simp
 | x::l,m,h=>by
   rw [List.mapM_cons] at h
   simp only [Option.bind_eq_bind,Option.bind_eq_some_iff,Option.pure_def,Option.some.injEq] at h
   obtain ⟨y,hy,m',hm,rfl⟩:=h
   obtain ⟨h1,h2⟩:=mapM_zip f l m' hm
   refine ⟨by simp [h1],?_⟩
   intro i u v hu hv
   cases i with
   | zero=>simp at hu hv; subst hu; subst hv; exact hy
   | succ i=>exact h2 i u v (by simpa using hu) (by simpa using hv)
theorem mapM_sizes (P:Program) (w:World):∀ (fs:List Field),(∀ f∈fs,∃ i,P.info? f.type=some i) →
   ∃ out:List (Nat×Nat),(fs.mapM fun (f:Field)=>(do pure (f.offset,←sizeOf f.type):Sem (Nat×Nat))).run P w = .ok out w∧out.length=fs.length ∧
     ∀ (j:Nat) (f:Field) (i:TypeInfo),fs[j]? = some f→P.info? f.type=some i→out[j]? = some (f.offset,i.size)
 | [],_=>⟨[],by simp,rfl,by simp⟩
 | f::fs,h=>by
   obtain ⟨i,hi⟩:=h f (by simp)
   obtain ⟨out,h1,h2,h3⟩:=mapM_sizes P w fs (fun g hg=>h g (by simp [hg]))
   refine ⟨(f.offset,i.size)::out,?_,by simp [h2],?_⟩
   · rw [List.mapM_cons]
     simp [sizeOf,typeInfo,hi]
     simp [sizeOf,typeInfo] at h1
     simp [h1]
   · intro j g k hj hk
     cases j with
     | zero=>simp at hj; subst hj; rw [hi] at hk; cases hk; rfl
     | succ j=>exact h3 j g k (by simpa using hj) hk
theorem ok_build {t:TypeId} {i:TypeInfo} {z:List AV} {zv:Value} {fields:Array Field} {parts:Array (Nat×Operand)} {ps:List (Nat×Nat×Opd)} (H:HRel base w0 w L N F [] h) (hs:SRel w L N s a.tmps)
   (hi:P.info? t=some i) (hz:i.zero=some zv) (hm:matchL z zv.cells.toList=true) (ht:P.underlying t=some (.struct fields)) (hfs:fields.toList.all (fun f=>(P.info? f.type).isSome)=true)
   (hp:parts.toList.mapM (compPart P fields)=some ps)
   (hK:aop P s h N K (.build z ps)):Gives P (do pure (.value (←Instr.build t (parts.map fun (j,x)=>(j,a.eval x))))) w (Post base w0 w L N K):=by
 simp only [aop] at hK
 obtain ⟨hall,hK⟩:=hK
 unfold onO at hK
 split at hK
 · rename_i cs hcs
   obtain ⟨hl,h1⟩:=VRl_matchL (w:=w) (L:=L) (N:=N) hm
   obtain ⟨hlen,hget⟩:=mapM_zip _ _ _ hp
   obtain ⟨out,r1,r2,r3⟩:=mapM_sizes P w fields.toList (fun f hf=>by
     have:=List.all_eq_true.1 hfs f hf
     exact Option.isSome_iff_exists.1 this)
   let rs:List ((Nat×Nat×AV)×(Nat×Value)):=(ps.map fun p=>(p.1,p.2.1,ev s p.2.2)).zip (parts.toList.map fun p=>(p.1,a.eval p.2))
   have e1:rs.map (·.1)=ps.map fun p=>(p.1,p.2.1,ev s p.2.2):=List.map_fst_zip (by simp [hlen])
   have e2:rs.map (·.2)=parts.toList.map fun p=>(p.1,a.eval p.2):=List.map_snd_zip (by simp [hlen])
   rw [←e1] at hcs
   obtain ⟨o,f1,f2⟩:=fill_sound (w:=w) (L:=L) (N:=N) (fun j=>out[j]?) rs z zv.cells cs hl (by
     rintro ⟨⟨off,sz,x⟩,⟨j,v⟩⟩ hr
     obtain ⟨q,hq⟩:=List.mem_iff_getElem?.1 hr
     rw [List.getElem?_zip_eq_some] at hq
     obtain ⟨q1,q2⟩:=hq
     simp only [List.getElem?_map,Option.map_eq_some_iff] at q1 q2
     obtain ⟨p,p1,p2⟩:=q1
     obtain ⟨u,u1,u2⟩:=q2
     simp only [Prod.mk.injEq] at p2 u2
     obtain ⟨rfl,rfl,rfl⟩:=p2
     obtain ⟨rfl,rfl⟩:=u2
     have hc:=hget q u p u1 p1
     have hcell:=List.all_eq_true.1 hall p (List.mem_of_getElem? p1)
     unfold compPart at hc
     split at hc
     · rename_i f hf
       split at hc
       · rename_i ii x' g1 g2
         cases hc
         refine ⟨?_,compX_sound g2 hs,?_,?_⟩
         · exact r3 u.1 f ii (by rw [Array.getElem?_toList]; exact hf) g1
         · intro hx; simp only at hcell hx; rw [hx] at hcell; simp [cellsOf,isCell] at hcell
         · intro vs hx; simp only at hcell hx; rw [hx] at hcell; simp [cellsOf,isCell] at hcell
       · cases hc
     · cases hc) hcs
   refine .of_value (v := .agg o) (w':=w) ?_ (Post.same H (by simp only [VR]; exact ⟨o,rfl,f2⟩) hK)
   have hmap:(fields.mapM fun (f:Field)=>(do pure (f.offset,←sizeOf f.type):Sem (Nat×Nat))).run P w = .ok out.toArray w:=by
     rw [Array.mapM_eq_mapM_toList]
     simp only [map_eq_pure_bind,Sem.run_bind,r1,Result.andThen_ok,Sem.run_pure]
   have hmap2:(Array.mapM (fun (f:Field)=>Prod.mk f.offset <$> sizeOf f.type) fields).run P w = .ok out.toArray w:=by simpa using hmap
   rw [e2] at f1
   simp only [Instr.build,Sem.run_bind,zeroValue,typeInfo,run_underlying ht]
   simp [hi,hz,hmap2,f1]
 · exact hK.elim
end
open Go Go.RowKit
section
variable {P:Program} {base:Nat} {w0 w:World} {L:Nat→Option Loc} {N:Nat} {F:Nat→List Nat} {E:List Nat} {h:Heap} {s:Nat→AV} {a:Act} {K:AV→Heap→Nat→Prop}
theorem HRel.drew (H:HRel base w0 w L N F E h):HRel base w0 w.drew L N F E h∧Ext w L N w.drew L N:=by
 have e:Ext w L N w.drew L N:=⟨Nat.le_refl _,fun _ _ _ h=>h,Nat.le_refl _,fun _ _ ho=>⟨rfl,ho⟩⟩
 exact ⟨⟨H.below.drew,H.bsz,H.dom,H.mod,H.lt,H.inj,H.lo,fun id B l h1 h2=>(H.blk id B l h1 h2).ext e fun _ _ _ _=>rfl,H.fp,H.ep,H.nd,H.ne,H.dj,H.de⟩,e⟩
theorem HRel.newRows (H:HRel base w0 w L N F E h) {rows:List (List AV)} {sz cap:Nat} {vals rest:List Value} {t:TypeId} (hv:VRr w L 0 rows vals E) (h1:one vals) (hpos:0<sz)
   (hsz:∀ r∈rows,r.length=sz) (hlim:rows.length≤LIM) (hcap:rows.length≤cap) (hmax:cap≤maxLen) (hlen:(vals++rest).length=cap*sz) :
   ∃ L' F',HRel base w0 (w.alloc (.cells (vals++rest).toArray t)) L' (N+1) F' [] (upd h N (some ⟨false,sz,rows⟩)) ∧
     VR (w.alloc (.cells (vals++rest).toArray t)) L' (N+1) (.ref N 0 rows.length) (.slice (some ⟨w.heap.size,0,Option.none⟩) rows.length cap) []∧Ext w L N (w.alloc (.cells (vals++rest).toArray t)) L' (N+1):=by
 obtain ⟨g1,g2⟩:=H.chg (w':=w.alloc (.cells (vals++rest).toArray t)) (N':=N+1) (E':=[]) N N ⟨false,sz,rows⟩ (.at w.heap.size sz cap) E (by omega) (by omega) (.inl rfl) (fun hlt=>absurd hlt (Nat.lt_irrefl _))
   ((Below.refl base w).alloc H.bsz _) (fun b hb _=>heap_alloc_old w _ _ hb) (fun b sz' cap' he=>by cases he; exact ⟨H.bsz,by simp,.inr (Nat.le_refl _)⟩)
   (fun L' e hL'=>BRel.of ⟨rfl,by simp,_,t,vals,rest,heap_alloc_new w _,by simp,by simpa using hlen,hpos,hmax,hcap,hlim,hsz,h1,by
     simp only [Bool.false_eq_true,if_false]; exact VRr_ext e.zero _ _ _ hv⟩) (by simpa using H.ne) (fun x hx => .inr (by simpa using hx))
 refine ⟨upd (upd L N Option.none) N (some (.at w.heap.size sz cap)),upd (upd F N []) N E,?_,?_,g2⟩
 · have:upd (upd h N Option.none) N (some ⟨false,sz,rows⟩)=upd h N (some ⟨false,sz,rows⟩):=by funext i; simp only [upd]; split <;> rfl
   rw [←this]; exact g1
 · simp only [VR]
   refine ⟨⟨by omega,rfl,?_⟩,trivial⟩
   intro l hl
   rw [upd_same] at hl; cases hl
   exact ⟨hlim,some ⟨w.heap.size,0,Option.none⟩,by simp,by simp,by omega⟩
theorem HRel.newRowsB (H:HRel base w0 w L N F [] h) {rows:List (List AV)} {sz cap:Nat} {vals rest:List Value} {t:TypeId} (hv:VRr w L N rows vals []) (h1:one vals) (hpos:0<sz)
   (hsz:∀ r∈rows,r.length=sz) (hlim:rows.length≤LIM) (hcap:rows.length≤cap) (hmax:cap≤maxLen) (hlen:(vals++rest).length=cap*sz) :
   ∃ L' F',HRel base w0 (w.alloc (.cells (vals++rest).toArray t)) L' (N+1) F' [] (upd h N (some ⟨true,sz,rows⟩)) ∧
     VR (w.alloc (.cells (vals++rest).toArray t)) L' (N+1) (.ref N 0 rows.length) (.slice (some ⟨w.heap.size,0,Option.none⟩) rows.length cap) []∧Ext w L N (w.alloc (.cells (vals++rest).toArray t)) L' (N+1):=by
 obtain ⟨g1,g2⟩:=H.chg (w':=w.alloc (.cells (vals++rest).toArray t)) (N':=N+1) (E':=[]) N N ⟨true,sz,rows⟩ (.at w.heap.size sz cap) [] (by omega) (by omega) (.inl rfl) (fun hlt=>absurd hlt (Nat.lt_irrefl _))
   ((Below.refl base w).alloc H.bsz _) (fun b hb _=>heap_alloc_old w _ _ hb) (fun b sz' cap' he=>by cases he; exact ⟨H.bsz,by simp,.inr (Nat.le_refl _)⟩)
   (fun L' e hL'=>BRel.of ⟨rfl,fun _=>rfl,_,t,vals,rest,heap_alloc_new w _,by simp,by simpa using hlen,hpos,hmax,hcap,hlim,hsz,h1,by
     simp only [if_true]; exact VRr_ext e _ _ _ hv⟩) (by simp) (by simp)
 refine ⟨upd (upd L N Option.none) N (some (.at w.heap.size sz cap)),upd (upd F N []) N [],?_,?_,g2⟩
 · have:upd (upd h N Option.none) N (some ⟨true,sz,rows⟩)=upd h N (some ⟨true,sz,rows⟩):=by funext i; simp only [upd]; split <;> rfl
   rw [←this]; exact g1
 · simp only [VR]
   refine ⟨⟨by omega,rfl,?_⟩,trivial⟩
   intro l hl
   rw [upd_same] at hl; cases hl
   exact ⟨hlim,some ⟨w.heap.size,0,Option.none⟩,by simp,by simp,by omega⟩
theorem VRr_cellsOf:∀ {as:List AV} {vs:List Value} {S:List Nat},VRl w L N as vs S→(as.all fun a=>(cellsOf a).all isCell)=true →
   VRr w L N (as.map cellsOf) (vs.map fun v=>v.cells.toList).flatten S∧one (vs.map fun v=>v.cells.toList).flatten
 | [],vs,S,hv,_=>by simp only [VRl] at hv; obtain ⟨rfl,rfl⟩:=hv; simp [VRr,one]
 | a::as,vs,S,hv,hc=>by
   simp only [VRl] at hv
   obtain ⟨v,vs',S1,S2,rfl,rfl,h1,h2⟩:=hv
   simp only [List.all_cons,Bool.and_eq_true] at hc
   obtain ⟨g1,g2⟩:=VRl_cellsOf h1 hc.1
   obtain ⟨k1,k2⟩:=VRr_cellsOf h2 hc.2
   refine ⟨?_,?_⟩
   · simp only [List.map_cons,List.flatten_cons,VRr]
     exact ⟨_,_,S1,S2,rfl,rfl,g1,k1⟩
   · intro u hu
     simp only [List.map_cons,List.flatten_cons,List.mem_append] at hu
     rcases hu with hu | hu
     · exact g2 u hu
     · exact k2 u hu
theorem fill_seq (size:Nat):∀ (vs:List Value) (k:Nat) (cs:Array Value),(∀ v∈vs,v.cells.size=size)→(k+vs.length)*size≤cs.size →
   ∃ o,Instr.fill (fun i=>some (i*size,size)) cs ((List.range' k vs.length).zip vs)=some o∧o.toList=cs.toList.take (k*size)++((vs.map fun v=>v.cells.toList).flatten++cs.toList.drop ((k+vs.length)*size))
 | [],k,cs,_,_=>⟨cs,rfl,by simp⟩
 | v::vs,k,cs,hsz,hle=>by
   have hv:=hsz v (by simp)
   simp only [List.length_cons] at hle
   have hmul:(k+(vs.length+1))*size=k*size+size+vs.length*size:=by rw [Nat.add_mul,Nat.add_mul,Nat.one_mul]; omega
   have hmul2:(k+1+vs.length)*size=k*size+size+vs.length*size:=by rw [Nat.add_mul,Nat.add_mul,Nat.one_mul]
   have hfold:=fold_set v.cells.toList (k*size) 0 cs (by simp [hv]; omega)
   have he:(v.cells.zipIdx.foldl (fun cs (c,j)=>cs.setIfInBounds (k*size+j) c) cs).toList=cs.toList.take (k*size)++(v.cells.toList++cs.toList.drop (k*size+size)):=by
     rw [←Array.foldl_toList,Array.toList_zipIdx]
     simpa [hv] using hfold
   have hs2:(v.cells.zipIdx.foldl (fun cs (c,j)=>cs.setIfInBounds (k*size+j) c) cs).size=cs.size:=by
     rw [←Array.length_toList,he]; simp only [List.length_append,List.length_take,List.length_drop,Array.length_toList,hv]; omega
   obtain ⟨o,h1,h2⟩:=fill_seq size vs (k+1) (v.cells.zipIdx.foldl (fun cs (c,j)=>cs.setIfInBounds (k*size+j) c) cs) (fun u hu=>hsz u (by simp [hu])) (by rw [hs2,hmul2]; omega)
   refine ⟨o,?_,?_⟩
   · simp only [List.length_cons,List.range'_succ,List.zip_cons_cons,Instr.fill]
     rw [if_neg (by simp; constructor <;> omega)]
     exact h1
   · rw [h2,he]
     have hkl:(cs.toList.take (k*size)).length=k*size:=by simp; omega
     have hcl:v.cells.toList.length=size:=by simp [hv]
     have e1:(cs.toList.take (k*size)++(v.cells.toList++cs.toList.drop (k*size+size))).take ((k+1)*size)=cs.toList.take (k*size)++v.cells.toList:=by
       rw [←List.append_assoc,List.take_append_of_le_length (by simp only [List.length_append,hkl,hcl,Nat.add_mul,Nat.one_mul]; omega)]
       rw [List.take_of_length_le (by simp only [List.length_append,hkl,hcl,Nat.add_mul,Nat.one_mul]; omega)]
     have e2:(cs.toList.take (k*size)++(v.cells.toList++cs.toList.drop (k*size+size))).drop ((k+1+vs.length)*size)=cs.toList.drop ((k+(vs.length+1))*size):=by
       rw [←List.append_assoc,hmul,hmul2]
       have:k*size+size+vs.length*size=(cs.toList.take (k*size)++v.cells.toList).length+vs.length*size:=by simp only [List.length_append,hkl,hcl]
       rw [this,List.drop_length_add_append,List.drop_drop]
       congr 1
     rw [e1,e2]; simp
theorem ok_bsl {t e:TypeId} {i:TypeInfo} {zv:Value} {parts:Array (Nat×Operand)} {ps:List Opd} (H:HRel base w0 w L N F [] h) (hs:SRel w L N s a.tmps)
   (ht:P.underlying t=some (.slice e)) (hi:P.info? e=some i) (hz:i.zero=some zv) (hpos:0<i.size) (hbig:parts.size*i.size≤2 ^ 24) (hzs:zv.cells.size=i.size)
   (hidx:parts.toList.map (·.1)=List.range parts.size) (hp:parts.toList.mapM (fun p=>compX P e p.2)=some ps)
   (hK:aop P s h N K (.bsl i.size ps)):Gives P (do pure (.value (←Instr.buildSlice t parts.size (parts.map fun (j,x)=>(j,a.eval x))))) w (Post base w0 w L N K):=by
 simp only [aop] at hK
 unfold onO at hK
 split at hK
 · rename_i q hq
   obtain ⟨hall,hK⟩:=hK
   obtain ⟨hlen,hget⟩:=mapM_zip _ _ _ hp
   have hvl:VRl w L N (ps.map (ev s)) (parts.toList.map fun p=>a.eval p.2) []:=by
     clear hq hK hall hidx hbig
     generalize parts.toList=l at hp hlen hget
     clear hp
     induction l generalizing ps with
     | nil=>cases ps with
       | nil=>exact ⟨rfl,rfl⟩
       | cons=>simp at hlen
     | cons p l ih=>cases ps with
       | nil=>simp at hlen
       | cons x ps=>
         simp only [List.map_cons]
         refine VRl_nil_cons.2 ⟨_,_,rfl,compX_sound (hget 0 p x rfl rfl) hs,ih (by simpa using hlen) fun j u v hu hv=>hget (j+1) u v (by simpa using hu) (by simpa using hv)⟩
   obtain ⟨L',F',S,g1,g2,g3⟩:=dtl_sound _ H hvl hq
   have hl2:=VRl_length g2
   have hqlen:q.1.length=parts.size:=by rw [←hl2]; simp
   have hall1:(q.1.all fun a=>(cellsOf a).all isCell)=true:=List.all_eq_true.2 fun x hx=>by have:=List.all_eq_true.1 hall x hx; simp only [Bool.and_eq_true] at this; exact this.2
   obtain ⟨k1,k2⟩:=VRr_cellsOf g2 hall1
   have hrow:∀ r∈q.1.map cellsOf,r.length=i.size:=by
     intro r hr
     obtain ⟨x,hx,rfl⟩:=List.mem_map.1 hr
     have:=List.all_eq_true.1 hall x hx; simp only [Bool.and_eq_true,beq_iff_eq] at this; exact this.1
   have hcsz:∀ v∈parts.toList.map (fun p=>a.eval p.2),v.cells.size=i.size:=by
     intro v hv
     obtain ⟨j,hj⟩:=List.mem_iff_getElem?.1 hv
     have hj':=(List.getElem?_eq_some_iff.1 hj).1
     have hjq:j<q.1.length:=by rw [←hl2]; exact hj'
     have hx:=List.getElem?_eq_getElem hjq
     obtain ⟨v',S',e1,e2,_⟩:=VRl_get g2 hx
     rw [hj] at e1; cases e1
     have hc:=List.all_eq_true.1 hall1 _ (List.getElem_mem hjq)
     have:=VRl_length (VRl_cellsOf e2 hc).1
     rw [Array.length_toList] at this
     rw [this]; exact hrow _ (List.mem_map.2 ⟨_,List.getElem_mem hjq,rfl⟩)
   have hcells0:((Array.range (parts.size*i.size)).map fun x=>(if parts.size*i.size=0 then #[] else zv.cells)[x % (if parts.size*i.size=0 then #[] else zv.cells).size]!).size=parts.size*i.size:=by simp
   obtain ⟨o,f1,f2⟩:=fill_seq i.size (parts.toList.map fun p=>a.eval p.2) 0 ((Array.range (parts.size*i.size)).map fun x=>(if parts.size*i.size=0 then #[] else zv.cells)[x % (if parts.size*i.size=0 then #[] else zv.cells).size]!)
     hcsz (by rw [hcells0]; simp)
   have hzip:(parts.map fun (j,x)=>(j,a.eval x)).toList=(List.range' 0 (parts.toList.map fun p=>a.eval p.2).length).zip (parts.toList.map fun p=>a.eval p.2):=by
     rw [←List.range_eq_range',List.length_map,Array.length_toList,←hidx]
     simp only [Array.toList_map]
     generalize parts.toList=l
     induction l with
     | nil=>rfl
     | cons p l ih=>simp [ih]
   have hol:o.toList=(List.map (fun v=>v.cells.toList) (List.map (fun p=>a.eval p.2) parts.toList)).flatten++[]:=by
     rw [f2,List.drop_of_length_le (by rw [Array.length_toList,hcells0]; simp)]; simp
   have hfl:(List.map (fun v=>v.cells.toList) (List.map (fun p=>a.eval p.2) parts.toList)).flatten.length=parts.size*i.size:=by
     rw [VRr_length hrow k1,List.length_map,hqlen]
   have hmaxl:parts.size≤2 ^ 24:=Nat.le_trans (Nat.le_mul_of_pos_right _ hpos) hbig
   obtain ⟨L2,F2,m1,m2,m3⟩:=(by simpa using g1:HRel base w0 w L' N F' S q.2).newRows (t:=e) (rest:=[]) (sz:=i.size) (cap:=parts.size) k1 k2 hpos hrow (by rw [List.length_map,hqlen]; simp only [LIM]; omega) (by rw [List.length_map,hqlen]; exact Nat.le_refl _)
     (by simp only [maxLen]; omega) (by rw [List.append_nil,hfl])
   rw [←hol,Array.toArray_toList] at m1 m2 m3
   rw [List.length_map,hqlen] at m2
   have hps:ps.length=parts.size:=by rw [hlen,Array.length_toList]
   rw [hps] at hK
   refine .of_value (v := .slice (some ⟨w.heap.size,0,Option.none⟩) parts.size parts.size) (w':=w.alloc (.cells o e)) ?_ ⟨_,_,_,_,_,m1,g3.trans m3,m2,hK⟩
   have hnb:¬(parts.size*i.size>2 ^ 24):=by omega
   have f1':=f1
   rw [←hzip] at f1'
   simp only [Instr.buildSlice,Sem.run_bind,run_underlying ht,Result.andThen_ok,run_sizeOf hi,if_neg hnb,Sem.run_pure,newRow]
   by_cases hh:parts.size*i.size=0
   · simp only [hh,if_true] at f1' ⊢
     simp only [Sem.run_bind,Sem.run_pure,Result.andThen_ok,f1']
     simp
   · simp only [hh,if_false] at f1' ⊢
     simp only [Sem.run_bind,zeroValue,typeInfo,Sem.run_pure,Result.andThen_ok]
     simp only [Array.toList_map] at f1'
     simp [hi,hz]
     rw [f1']
     simp
 · exact hK.elim
end
open Go Go.RowKit
theorem zeros_list (z:Array Value) (sz:Nat) (hz:z.size=sz):∀ c:Nat,((Array.range (c*sz)).map fun x=>z[x % z.size]!).toList=(List.replicate c z.toList).flatten:=by
 intro c
 induction c with
 | zero=>simp
 | succ c ih=>
   have e:(c+1)*sz=c*sz+sz:=by rw [Nat.add_mul,Nat.one_mul]
   rw [List.replicate_succ',List.flatten_append,←ih,e]
   simp only [Array.toList_map,Array.toList_range,List.range_add,List.map_append,List.map_map,List.flatten_cons,List.flatten_nil,List.append_nil]
   congr 1
   apply List.ext_getElem
   · simp [hz]
   · intro j h1 h2
     simp at h1 h2
     simp only [List.getElem_map,List.getElem_range,Function.comp,hz,Nat.mul_add_mod_self_right,Array.getElem_toList]
     rw [Nat.mod_eq_of_lt (by omega)]
     simp [h2]
section
variable {P:Program} {base:Nat} {w0 w:World} {L:Nat→Option Loc} {N:Nat} {F:Nat→List Nat} {E:List Nat} {h:Heap} {s:Nat→AV} {a:Act} {K:AV→Heap→Nat→Prop}
theorem VRr_replicate {z:List AV} {vals:List Value} (hz:VRl w L N z vals []):∀ n:Nat,VRr w L N (List.replicate n z) (List.replicate n vals).flatten []
 | 0=>⟨rfl,rfl⟩
 | n+1=>by simp only [List.replicate_succ,List.flatten_cons,VRr]; exact ⟨_,_,[],[],rfl,rfl,hz,VRr_replicate hz n⟩
theorem ok_mks {t e:TypeId} {i:TypeInfo} {zv:Value} {z:List AV} {x y:Operand} {x' y':Opd} (H:HRel base w0 w L N F [] h) (hs:SRel w L N s a.tmps) (hx:∃ t,compX P t x=some x') (hy:∃ t,compX P t y=some y')
   (ht:P.underlying t=some (.slice e)) (hi:P.info? e=some i) (hz:i.zero=some zv) (hm:matchL z zv.cells.toList=true) (hzl:z.length=i.size) (hpos:0<i.size) (hby:0<i.bytes)
   (hK:aop P s h N K (.mks i.bytes z x' y')):Gives P (do pure (.value (←Instr.makeSlice t (a.eval x) (a.eval y)))) w (Post base w0 w L N K):=by
 obtain ⟨t1,hx⟩:=hx
 obtain ⟨t2,hy⟩:=hy
 simp only [aop] at hK
 unfold onO at hK
 split at hK
 · rename_i l hl
   split at hK
   · rename_i c hc
     obtain ⟨k1,e1⟩:=asI_some hl (compX_sound hx hs)
     obtain ⟨k2,e2⟩:=asI_some hc (compX_sound hy hs)
     obtain ⟨h0,h1,h2,hK⟩:=hK
     obtain ⟨hzv,hzone⟩:=VRl_matchL (w:=w) (L:=L) (N:=0) hm
     have hzs:zv.cells.size=i.size:=by rw [←Array.length_toList,VRl_length hzv,hzl]
     have hcl:c≤LIM:=by
       have:c*1≤c*i.bytes:=Int.mul_le_mul_of_nonneg_left (by omega) (by omega)
       omega
     have hLIM:(LIM:Int)=140737488355328:=rfl
     have wl:IntKind.i64.wrap l=l:=IntWalk.i64_in l ⟨by omega,by omega⟩
     have wc:IntKind.i64.wrap c=c:=IntWalk.i64_in c ⟨by omega,by omega⟩
     have hvals:((Array.range (c.toNat*i.size)).map fun x=>zv.cells[x % zv.cells.size]!).toList=(List.replicate l.toNat zv.cells.toList).flatten++(List.replicate (c.toNat - l.toNat) zv.cells.toList).flatten:=by
       rw [zeros_list _ _ hzs,←List.flatten_append,List.replicate_append_replicate]; congr 2; omega
     obtain ⟨L2,F2,m1,m2,m3⟩:=H.newRows (t:=e) (rows:=List.replicate l.toNat z) (sz:=i.size) (cap:=c.toNat) (vals:=(List.replicate l.toNat zv.cells.toList).flatten) (rest:=(List.replicate (c.toNat - l.toNat) zv.cells.toList).flatten)
       (VRr_replicate hzv _) (by
         intro v hv
         simp only [List.mem_flatten,List.mem_replicate] at hv
         obtain ⟨q,⟨_,rfl⟩,hv⟩:=hv
         exact hzone v hv) hpos (by intro r hr; rw [(List.mem_replicate.1 hr).2]; exact hzl) (by simp; omega) (by simp; omega) (by simp only [maxLen]; omega) (by rw [←hvals]; simp)
     rw [←hvals,Array.toArray_toList] at m1 m2 m3
     rw [List.length_replicate] at m2
     refine .of_value (v := .slice (some ⟨w.heap.size,0,Option.none⟩) l.toNat c.toNat) (w':=_) ?_ ⟨_,_,_,_,_,m1,m3,m2,by rw [hzl] at hK; exact hK⟩
     rw [e1,e2]
     have q1:¬c<0:=by omega
     have q2:¬l<0:=by omega
     have q3:¬c<l:=by omega
     have q4:¬(281474976710656<(i.bytes:Int)*c):=by rw [Int.mul_comm]; omega
     by_cases hc0:c.toNat*i.size=0
     · simp [Instr.makeSlice,run_underlying ht,asInt,asIntOf,typeInfo,hi,wl,wc,q1,q2,q3,q4,sizeOf,hc0,newRow,show Array.range 0=(#[]:Array Nat) from rfl]
     · simp [Instr.makeSlice,run_underlying ht,asInt,asIntOf,typeInfo,hi,wl,wc,q1,q2,q3,q4,sizeOf,hc0,newRow,zeroValue,hz]
   · exact hK.elim
 · exact hK.elim
theorem bytes_vals:∀ {rows:List (List AV)} {news:List Value} {S:List Nat} {l:List UInt8},VRr w L N rows news S→bytesOf rows=some l→∃ ns:List Int,news=ns.map (Value.int .u8)∧l=ns.map (fun n=>UInt8.ofNat n.toNat)
 | [],news,S,l,hv,hb=>by
   simp only [VRr] at hv; simp only [bytesOf,Option.some.injEq] at hb
   obtain ⟨rfl,rfl⟩:=hv; subst hb; exact ⟨[],rfl,rfl⟩
 | r::rs,news,S,l,hv,hb=>by
   simp only [VRr] at hv
   obtain ⟨v1,v2,S1,S2,rfl,rfl,h1,h2⟩:=hv
   unfold bytesOf at hb
   split at hb
   · rename_i heq; cases heq
   · rename_i n rs' heq
     cases heq
     simp only [Option.map_eq_some_iff] at hb
     obtain ⟨l',hb,rfl⟩:=hb
     obtain ⟨ns,rfl,rfl⟩:=bytes_vals h2 hb
     simp only [VRl,VR] at h1
     obtain ⟨v,vs',T1,T2,rfl,rfl,⟨rfl,_⟩,rfl,_⟩:=h1
     exact ⟨n::ns,rfl,rfl⟩
   · cases hb
theorem ok_cvb {src dst e t':TypeId} {x:Operand} {x':Opd} (H:HRel base w0 w L N F [] h) (hs:SRel w L N s a.tmps) (hx:compX P t' x=some x')
   (h1:P.underlying src=some (.slice e)) (h2:P.underlying dst=some .string) (h3:P.underlying e=some (.int .u8))
   (hK:aop P s h N K (.cvb x')):Gives P (do pure (.value (←convert src dst (a.eval x)))) w (Post base w0 w L N K):=by
 have hv:=compX_sound hx hs
 simp only [aop] at hK
 unfold onO at hK
 split at hK
 · rename_i p hp
   split at hK
   · rename_i l hl
     obtain ⟨sz,rows,h'⟩:=p
     obtain ⟨F',S,A,c,news,g1,g2,g3,g4,g5,g6,g7⟩:=srcRows_sound H hv hp
     obtain ⟨ns,rfl,rfl⟩:=bytes_vals g3 hl
     have hlen:ns.length=rows.length:=by
       clear g1 g4 g5 g6 g7 hK hp g2
       have:∀ (rows:List (List AV)) (l:List UInt8),bytesOf rows=some l→l.length=rows.length:=by
         intro rows
         induction rows with
         | nil=>intro l h; simp only [bytesOf,Option.some.injEq] at h; subst h; rfl
         | cons r rs ih=>
           intro l h
           unfold bytesOf at h
           split at h
           · rename_i heq; cases heq
           · rename_i n rs' heq; cases heq
             simp only [Option.map_eq_some_iff] at h
             obtain ⟨l',h,rfl⟩:=h
             simp [ih l' h]
           · cases h
       simpa using this _ _ hl
     have hfin:VR w L N (.str (ns.map fun n=>UInt8.ofNat n.toNat)) (.string (strOfNums ns)) []:=mk_str (strOfNums_data ns) (by rw [List.length_map,hlen]; exact g5)
     have hlc:∀ A':Addr,A=some A'→(loadCells A' rows.length).run P w = .ok (ns.map (Value.int .u8)).toArray w:=by
       intro A' hA
       rcases g7 with rfl | ⟨b,o,hb,hc⟩
       · have:ns=[]:=List.eq_nil_of_length_eq_zero (by simpa using hlen)
         subst this; rfl
       · rw [hA] at hb; cases hb
         have:=run_loadCells_list (P:=P) w ⟨b,o,Option.none⟩ (ns.map (Value.int .u8)) (fun j v hj=>by rw [addr_add]; exact hc j v hj)
         rwa [List.length_map,hlen] at this
     have hstr:ns.foldl (fun r n=>r.push (UInt8.ofNat n.toNat)) ByteArray.empty=strOfNums ns:=by
       rw [foldl_push_bytes]; simp [strOfNums,ByteArray.empty,ByteArray.emptyWithCapacity]
       try rfl
     refine .of_value (v := .string (strOfNums ns)) (w':=w) ?_ (Post.same H hfin hK)
     rw [g2]
     cases A with
     | none=>
       have hr:rows=[]:=by rcases g7 with h | ⟨b,o,hb,_⟩; exact h; cases hb
       have:ns=[]:=List.eq_nil_of_length_eq_zero (by simpa [hr] using hlen)
       subst this
       simp only [Sem.run_bind,run_convert_bytes_nil w src e h1 h3 _ _ dst h2,Result.andThen_ok]; rfl
     | some A'=>
       simp only [Sem.run_bind,run_convert_bytes_string w src dst e _ _ _ h1 h3 h2,run_bytesToString w A' _ _ ns (hlc A' rfl),Result.andThen_ok,hstr]; rfl
   · exact hK.elim
 · exact hK.elim
theorem ok_call {ty:TypeId} {f:Operand} {f':Opd} {c:Call} {xs:List Opd} (H:HRel base w0 w L N F [] h) (hs:SRel w L N s a.tmps) (hf:∃ t,compX P t f=some f') (hc:c.callee = .value f)
   (hxs:VRl w L N (xs.map (ev s)) (c.args.map a.eval).toList [])
   (hK:aop P s h N K (.call f' xs)):Gives P (do let d ←resolve a.eval c ty; invoke d.target d.args) w (Post base w0 w L N K):=by
 obtain ⟨t,hf⟩:=hf
 have hv:=compX_sound hf hs
 simp only [aop] at hK
 split at hK
 · rename_i g fi ca hev
   rw [hev] at hv
   simp only [VR] at hv
   obtain ⟨⟨x,y,he,h1,h2⟩,_⟩:=hv
   obtain ⟨hcall,hK⟩:=hK
   unfold callable at hcall
   split at hcall
   · rename_i fn hfn
     simp only [Bool.and_eq_true,Bool.not_eq_true'] at hcall
     have hbody:fn.body.isNone=false:=by cases hb:fn.body <;> simp [hb] at hcall ⊢
     have hn:fn.name ≠ "runtime.NumGoroutine" := by simpa using hcall.2
     have run:(do let d ←resolve a.eval c ty; invoke d.target d.args:Sem Next).run P w = .ok (.enter g (x++c.args.map a.eval++y)) w:=by
       simp [resolve,hc,he,Deferred.ofValue,invoke,callFunc,hfn,hn]
       intro hb; rw [hb] at hbody; simp at hbody
     unfold Gives
     rw [run]
     have hall:VRl w L N (fi++xs.map (ev s)++ca) (x++c.args.map a.eval++y).toList []:=by
       rw [Array.toList_append,Array.toList_append]
       exact VRl_nil_append.2 ⟨_,_,rfl,VRl_nil_append.2 ⟨_,_,rfl,h1,hxs⟩,h2⟩
     have:=hK base w0 w L F _ H hall
     rw [Array.toArray_toList] at this
     refine this.mono fun e w' he => ?_
     obtain ⟨v,r,L',n',F',h',rfl,k1,k2,k3,k4⟩:=he
     exact ⟨v,rfl,r,L',n',F',h',k1,k2,k3,k4⟩
   · cases hcall
 · exact hK.elim
end
open Go Go.RowKit
section
variable {P:Program} {base:Nat} {w0 w:World} {L:Nat→Option Loc} {N:Nat} {F:Nat→List Nat} {E:List Nat} {h:Heap} {s:Nat→AV} {a:Act} {K:AV→Heap→Nat→Prop}
theorem lenOf_run {y:Value} {m:Nat} (hy:∃ A c,y = .slice A m c) (w:World):(Builtin.lenOf y).run P w = .ok m w:=by obtain ⟨A,c,rfl⟩:=hy; simp [Builtin.lenOf]
theorem src_of {size:Nat} {rows:List (List AV)} {A:Option Addr} {c:Nat} {news:List Value} (hl:news.length=rows.length*size)
   (h:rows=[]∨∃ b o,A=some ⟨b,o,Option.none⟩∧cellsAt w b o news):∀ w':World,w'.heap=w.heap→(Builtin.firstCells size rows.length (.slice A rows.length c)).run P w' = .ok news.toArray w':=by
 intro w' hw
 rcases h with rfl | ⟨b,o,rfl,hc⟩
 · have:news=[]:=List.eq_nil_of_length_eq_zero (by simpa using hl)
   subst this
   cases A with
   | none=>simp [Builtin.firstCells]
   | some A=>simp [Builtin.firstCells,loadCells,loadCellsFrom]
 · refine run_firstCells_some (P:=P) w' size rows.length ⟨b,o,Option.none⟩ _ c news hl fun j v hj => ?_
   rw [addr_add,World.cell?_of_block (w:=w) (by rw [hw])]
   exact hc j v hj
theorem run_app_nil {t ty e t2:TypeId} {i:TypeInfo} {z y:Value} (ht:P.underlying t=some (.slice e)) (ht2:∃ e',P.underlying t2=some (.slice e')) (hi:P.info? e=some i) (hz:i.zero=some z) {m:Nat} {news:List Value} (hy:∃ A c,y = .slice A m c)
   (hf:∀ w':World,w'.heap=w.heap→(Builtin.firstCells i.size m y).run P w' = .ok news.toArray w') (hm:0<m) (hb:m*i.bytes≤LIM) (hm2:m≤LIM) :
   (Builtin.append_ #[t,t2] ty #[.slice Option.none 0 0,y]).run P w =
     .ok (.slice (some ⟨w.heap.size,0,Option.none⟩) m (grownCap w m 0 e)) (w.drew.alloc (.cells (news.toArray++Builtin.zeroCells z.cells (grownCap w m 0 e - m)) e)):=by
 obtain ⟨e',ht2⟩:=ht2
 have hLIM:LIM=140737488355328:=rfl
 have hn:m≠0:=by omega
 have h63':¬(9223372036854775807<(m:Int)):=by omega
 have h48':¬(281474976710656<Builtin.nextslicecap m 0*i.bytes):=by have:=growslice_fits (old:=0) hm (by omega:m*i.bytes≤140737488355328); omega
 have hl:=lenOf_run (P:=P) hy w
 have hff:=hf w.drew rfl
 simp [Builtin.append_,run_underlying ht,run_underlying ht2,sizeOf,typeInfo,zeroValue,hi,hz,hl,hn,h63',h48',Question.forced,run_firstCells_none,hff,newRow,grownCap]
theorem run_app_nil0 {t ty e t2:TypeId} {i:TypeInfo} {y:Value} (ht:P.underlying t=some (.slice e)) (ht2:∃ e',P.underlying t2=some (.slice e')) (hi:P.info? e=some i) {news:List Value} (hy:∃ A c,y = .slice A 0 c)
   (hf:∀ w':World,w'.heap=w.heap→(Builtin.firstCells i.size 0 y).run P w' = .ok news.toArray w') :
   (Builtin.append_ #[t,t2] ty #[.slice Option.none 0 0,y]).run P w = .ok (.slice Option.none 0 0) w:=by
 obtain ⟨e',ht2⟩:=ht2
 have hl:=lenOf_run (P:=P) hy w
 have hff:=hf w rfl
 simp [Builtin.append_,run_underlying ht,run_underlying ht2,sizeOf,typeInfo,hi,hl,hff]
theorem run_app_room {t ty e t2 u:TypeId} {i:TypeInfo} {y:Value} (ht:P.underlying t=some (.slice e)) (ht2:∃ e',P.underlying t2=some (.slice e')) (hi:P.info? e=some i) {m:Nat} {news:List Value} (hy:∃ A c,y = .slice A m c)
   (hf:∀ w':World,w'.heap=w.heap→(Builtin.firstCells i.size m y).run P w' = .ok news.toArray w') (h1:one news)
   {g sLen sCap:Nat} {cur:Array Value} (hg:w.heap[g]? = some (.cells cur u (0,0))) (hroom:sLen+m≤sCap) (hfit:sLen*i.size+news.length≤cur.size) :
   (Builtin.append_ #[t,t2] ty #[.slice (some ⟨g,0,Option.none⟩) sLen sCap,y]).run P w =
     .ok (.slice (some ⟨g,0,Option.none⟩) (sLen+m) sCap) (w.setRow g (cur.toList.take (sLen*i.size)++news++cur.toList.drop (sLen*i.size+news.length)).toArray):=by
 obtain ⟨e',ht2⟩:=ht2
 have hl:=lenOf_run (P:=P) hy w
 have hff:=hf w rfl
 have hst:=run_storeCells_at P g (sLen*i.size) u news 0 cur w hg (by simpa using hfit) h1
 simp only [Nat.add_zero] at hst
 simp [Builtin.append_,run_underlying ht,run_underlying ht2,sizeOf,typeInfo,hi,hl,hroom,hff,Addr.add_lit,hst]
theorem run_app_grow {t ty e t2:TypeId} {i:TypeInfo} {z y:Value} (ht:P.underlying t=some (.slice e)) (ht2:∃ e',P.underlying t2=some (.slice e')) (hi:P.info? e=some i) (hz:i.zero=some z) {m:Nat} {news:List Value} (hy:∃ A c,y = .slice A m c)
   (hf:∀ w':World,w'.heap=w.heap→(Builtin.firstCells i.size m y).run P w' = .ok news.toArray w')
   {b:Addr} {sLen sCap:Nat} {olds:List Value} (hlo:olds.length=sLen*i.size) (holds:∀ j v,olds[j]? = some v→w.cell? (b.add j)=some v)
   (hg:sCap<sLen+m) (hb:(sLen+m)*i.bytes≤LIM) (hm2:sLen+m≤LIM) :
   (Builtin.append_ #[t,t2] ty #[.slice (some b) sLen sCap,y]).run P w =
     .ok (.slice (some ⟨w.heap.size,0,Option.none⟩) (sLen+m) (grownCap w (sLen+m) sCap e))
       (w.drew.alloc (.cells (olds.toArray++news.toArray++Builtin.zeroCells z.cells (grownCap w (sLen+m) sCap e - (sLen+m))) e)):=by
 obtain ⟨e',ht2⟩:=ht2
 have hLIM:LIM=140737488355328:=rfl
 have hn:¬(sLen+m≤sCap):=by omega
 have h63':¬(9223372036854775807<((sLen:Int)+(m:Int))):=by omega
 have h48':¬(281474976710656<Builtin.nextslicecap (sLen+m) sCap*i.bytes):=by have:=growslice_fits hg (by omega:(sLen+m)*i.bytes≤140737488355328); omega
 have hl:=lenOf_run (P:=P) hy w
 have hff:=hf w.drew rfl
 have hfo:=run_firstCells_some (P:=P) w.drew i.size sLen b sLen sCap olds hlo (by simpa using holds)
 simp [Builtin.append_,run_underlying ht,run_underlying ht2,sizeOf,typeInfo,zeroValue,hi,hz,hl,hn,h63',h48',Question.forced,hff,hfo,newRow,grownCap]
 congr 2
 rw [←Array.append_assoc]
 congr 1
 simp
theorem HRel.kill (H:HRel base w0 w L N F E h) (id:Nat) {E':List Nat} (hS:E'.Nodup) (hS2:∀ x∈E',x∈F id∨x∈E) :
   HRel base w0 w (upd L id Option.none) N (upd F id []) E' (upd h id Option.none):=by
 have e:=Ext.kill w L N id
 have Fu:∀ x,x∈F id∨x∈E→¬Own (upd L id Option.none) x∧base≤x∧x<w.heap.size:=fun x hx=>by
   have:=hx.elim (H.fp id x) (H.ep x)
   exact ⟨fun h'=>this.1 h'.upd_none,this.2⟩
 have Fc:∀ i x,x∈upd F id [] i→i≠id∧x∈F i:=fun i x hx=>by
   simp only [upd] at hx
   split at hx
   · cases hx
   · exact ⟨by assumption,hx⟩
 refine ⟨H.below,H.bsz,?_,?_,?_,?_,?_,?_,?_,fun b hb=>Fu b (hS2 b hb),?_,hS,?_,?_⟩
 · intro i hi; simp only [upd] at hi ⊢; split <;> rename_i hx <;> simp only [hx,if_true,if_false] at hi ⊢; exact H.dom i hi
 · intro i hi; simp only [upd] at hi ⊢; split <;> rename_i hx <;> simp only [hx,if_true,if_false] at hi ⊢; exact H.mod i hi
 · intro i l' hi; exact H.lt i l' (upd_none_some hi).2
 · intro i i' b sz cap sz' cap' hi hi'; exact H.inj i i' b sz cap sz' cap' (upd_none_some hi).2 (upd_none_some hi').2
 · intro b ho; exact H.lo b ho.upd_none
 · intro i B' l' hi hl'
   obtain ⟨hne,hl''⟩:=upd_none_some hl'
   rw [upd_other _ _ _ _ hne] at hi
   rw [upd_other _ _ _ _ hne]
   exact (H.blk i B' l' hi hl'').ext e fun _ _ _ _=>rfl
 · intro i b hb
   obtain ⟨_,hb⟩:=Fc i b hb
   have:=H.fp i b hb
   exact ⟨fun h'=>this.1 h'.upd_none,this.2⟩
 · intro i; simp only [upd]; split; exact List.nodup_nil; exact H.nd i
 · intro i j b h1 h2
   exact H.dj i j b (Fc i b h1).2 (Fc j b h2).2
 · intro i b h1 h2
   obtain ⟨hne,h1⟩:=Fc i b h1
   rcases hS2 b h2 with h2 | h2
   · exact hne (H.dj i id b h1 h2)
   · exact H.de i b h1 h2
theorem zeroCells_len (z:Array Value) (n:Nat):(Builtin.zeroCells z n).toList.length=n*z.size:=by simp [Builtin.zeroCells]
theorem app_new {t ty e t2:TypeId} {i:TypeInfo} {z:Value} (ht:P.underlying t=some (.slice e)) (ht2:∃ e',P.underlying t2=some (.slice e')) (hi:P.info? e=some i) (hz:i.zero=some z) (hzs:z.cells.size=i.size) (hpos:0<i.size) (hby:0<i.bytes)
   {S:List Nat} (H:HRel base w0 w L N F S h) {rows:List (List AV)} {A:Option Addr} {c:Nat} {news:List Value} (hr:VRr w L 0 rows news S) (h1:one news) (hsz:∀ r∈rows,r.length=i.size)
   (hc:rows=[]∨∃ b o,A=some ⟨b,o,Option.none⟩∧cellsAt w b o news) (hb:rows.length*i.bytes≤LIM) :
   ∃ v w' L' F',(Builtin.append_ #[t,t2] ty #[.slice Option.none 0 0,.slice A rows.length c]).run P w = .ok v w' ∧
     HRel base w0 w' L' (N+1) F' [] (upd h N (some ⟨false,i.size,rows⟩))∧VR w' L' (N+1) (.ref N 0 rows.length) v []∧Ext w L N w' L' (N+1):=by
 have hnl:=VRr_length hsz hr
 have hf:=src_of (P:=P) (size:=i.size) (c:=c) hnl hc
 have hlim:rows.length≤LIM:=Nat.le_trans (Nat.le_mul_of_pos_right _ hby) hb
 have hLIM:LIM=140737488355328:=rfl
 by_cases hm:rows.length=0
 · have hrows:rows=[]:=List.eq_nil_of_length_eq_zero hm
   subst hrows
   simp only [VRr] at hr
   obtain ⟨rfl,rfl⟩:=hr
   have run:=run_app_nil0 (P:=P) (w:=w) (ty:=ty) ht ht2 hi (y := .slice A 0 c) ⟨A,c,rfl⟩ hf
   obtain ⟨m1,m2⟩:=H.chg (w':=w) (N':=N+1) (E':=[]) N N ⟨false,i.size,[]⟩ .none [] (by omega) (by omega) (.inl rfl) (fun hlt=>absurd hlt (Nat.lt_irrefl _)) (Below.refl _ _) (fun _ _ _=>rfl) (fun _ _ _ he=>by cases he)
     (fun L' e hL'=>⟨rfl,rfl⟩) (by simp) (by simp)
   have hu:upd (upd h N Option.none) N (some ⟨false,i.size,[]⟩)=upd h N (some ⟨false,i.size,[]⟩):=by funext j; simp only [upd]; split <;> rfl
   rw [hu] at m1
   refine ⟨_,w,_,_,run,m1,?_,m2⟩
   simp only [VR]
   refine ⟨⟨by omega,rfl,?_⟩,trivial⟩
   intro l hl; rw [upd_same] at hl; cases hl
   exact ⟨Nat.zero_le _,rfl,rfl,rfl⟩
 · have run:=run_app_nil (P:=P) (w:=w) (ty:=ty) ht ht2 hi hz (y := .slice A rows.length c) ⟨A,c,rfl⟩ hf (by omega) hb hlim
   have hge:=grownCap_ge w rows.length 0 e
   have hcm:=grownCap_le_maxLen w rows.length 0 e (by simp only [maxLen]; omega)
   obtain ⟨Hd,ed⟩:=H.drew
   obtain ⟨L2,F2,m1,m2,m3⟩:=Hd.newRows (t:=e) (rows:=rows) (sz:=i.size) (cap:=grownCap w rows.length 0 e) (vals:=news) (rest:=(Builtin.zeroCells z.cells (grownCap w rows.length 0 e - rows.length)).toList)
     (VRr_ext ed.zero _ _ _ hr) h1 hpos hsz hlim hge hcm (by
       rw [List.length_append,hnl,zeroCells_len,hzs,←Nat.add_mul]; congr 1; omega)
   have harr:(news++(Builtin.zeroCells z.cells (grownCap w rows.length 0 e - rows.length)).toList).toArray=news.toArray++Builtin.zeroCells z.cells (grownCap w rows.length 0 e - rows.length):=by
     apply Array.ext'; simp
   rw [harr] at m1 m2 m3
   exact ⟨_,_,L2,F2,run,m1,m2,ed.trans m3⟩
theorem ok_app {t t2 ty e:TypeId} {i:TypeInfo} {z:Value} {x y:Operand} {x' y':Opd} (H:HRel base w0 w L N F [] h) (hs:SRel w L N s a.tmps) (hx:∃ t,compX P t x=some x') (hy:∃ t,compX P t y=some y')
   (ht:P.underlying t=some (.slice e)) (ht2:∃ e',P.underlying t2=some (.slice e')) (hi:P.info? e=some i) (hz:i.zero=some z) (hzs:z.cells.size=i.size) (hpos:0<i.size) (hby:0<i.bytes)
   (hK:aop P s h N K (.app i.bytes i.size x' y')):Gives P (do pure (.value (←Builtin.append_ #[t,t2] ty #[a.eval x,a.eval y]))) w (Post base w0 w L N K):=by
 obtain ⟨t1,hx⟩:=hx
 obtain ⟨t3,hy⟩:=hy
 have hv:=compX_sound hx hs
 have hu:=compX_sound hy hs
 have hLIM:LIM=140737488355328:=rfl
 simp only [aop] at hK
 split at hK
 · rename_i sz0 hev
   rw [hev] at hv
   simp only [VR] at hv
   unfold onO at hK
   split at hK
   · rename_i p hp
     obtain ⟨sz,rows,h'⟩:=p
     obtain ⟨h1,h2,hK⟩:=hK
     simp only at h1 h2 hK
     subst h1
     obtain ⟨F',S,A,c,news,g1,g2,g3,g4,g5,g6,g7⟩:=srcRows_sound H hu hp
     obtain ⟨v,w',L',F'',r1,r2,r3,r4⟩:=app_new (P:=P) (ty:=ty) ht ht2 hi hz hzs hpos hby g1 g3 g4 g6 g7 h2
     refine .of_value (v:=v) (w':=w') ?_ ⟨_,_,_,_,_,r2,r4,r3,hK⟩
     rw [hv.1,g2,Sem.run_bind,r1]; rfl
   · exact hK.elim
 · rename_i id off len hev
   rw [hev] at hv
   obtain ⟨rfl,hK⟩:=hK
   unfold onO at hK
   split at hK
   · rename_i p hp
     split at hK
     · rename_i B hB
       obtain ⟨hbox,hBsz,hlen,h1,hne,h2,hK⟩:=hK
       obtain ⟨sz,rows,h'⟩:=p
       simp only at h1 h2 hK
       subst h1
       obtain ⟨F',S,A,c,news,g1,g2,g3,g4,g5,g6,g7⟩:=srcRows_sound H hu hp
       have hB':h' id=some B:=by
         have hp':=hp
         unfold srcRows at hp'
         split at hp'
         · simp only [Option.some.injEq,Prod.mk.injEq] at hp'; rw [←hp'.2.2]; exact hB
         · simp only [Option.some.injEq,Prod.mk.injEq] at hp'; rw [←hp'.2.2]; exact hB
         · rename_i id2 o2 l2 hy2
           split at hp'
           · split at hp'
             · simp only [Option.some.injEq,Prod.mk.injEq] at hp'
               rw [←hp'.2.2,upd_other _ _ _ _ (by rw [hy2] at hne; exact fun h=>hne h.symm)]; exact hB
             · cases hp'
           · cases hp'
         · cases hp'
       have hnl:=VRr_length g6 g3
       have hf:=src_of (P:=P) (size:=i.size) (c:=c) hnl g7
       have hlim:len+rows.length≤LIM:=Nat.le_trans (Nat.le_mul_of_pos_right _ hby) h2
       cases hl:L id with
       | none=>rw [H.mod id hl] at hB; cases hB
       | some l=>
         have hid:=H.lt id l hl
         simp only [VR] at hv
         have hpp:=hv.1.2.2 l hl
         have hbr:=g1.blk id B l hB' hl
         have hidN:N≠id:=by omega
         cases l with
         | none=>
           obtain ⟨hrows,hFe⟩:=hbr
           obtain ⟨_,_,rfl,he⟩:=hpp
           have Hk:=g1.kill id (E':=S) g1.ne (fun x hx => .inr hx)
           have ek:=Ext.kill w L N id
           obtain ⟨v,w',L',F'',r1,r2,r3,r4⟩:=app_new (P:=P) (ty:=ty) (t2:=t2) ht ht2 hi hz hzs hpos hby Hk (VRr_ext ek.zero _ _ _ g3) g4 g6 g7 (by rw [Nat.zero_add] at h2; exact h2)
           refine .of_value (v:=v) (w':=w') ?_ ⟨_,_,_,_,_,r2,ek.trans r4,r3,?_⟩
           · rw [he,g2,Sem.run_bind,r1]; rfl
           · simpa using hK
         | «at» b sz cap=>
           obtain ⟨rfl,h0,cur,u,vals,rest,q1,q2,q3,q4,q5,q6,q7,q8,q9,q10⟩:=hbr.cells (hbr.pos hbox)
           obtain ⟨_,A',he,hA,hcap⟩:=hpp
           have hA:=hA (.inr rfl)
           subst hA
           simp only [Nat.zero_mul,Nat.sub_zero,Nat.zero_add] at he hcap
           simp only [hbox,if_false,Bool.false_eq_true] at q10
           obtain ⟨v1,v2,S1,S2,rfl,hFS,k1,k2⟩:=VRr_take len q10
           have hv1:v1.length=len*B.sz:=by
             rw [VRr_length (fun r hr=>q8 r (List.mem_of_mem_take hr)) k1,List.length_take,Nat.min_eq_left (by omega)]
           have hrowsl:(B.rows.take len++rows).length=len+rows.length:=by rw [List.length_append,List.length_take,Nat.min_eq_left hlen]
           have hrsz:∀ r∈B.rows.take len++rows,r.length=i.size:=by
             intro r hr
             rcases List.mem_append.1 hr with hr | hr
             · rw [q8 r (List.mem_of_mem_take hr),hBsz]
             · exact g6 r hr
           have hone:one (v1++news):=by
             intro v hv'
             rcases List.mem_append.1 hv' with hv' | hv'
             · exact q9 v (by simp [hv'])
             · exact g4 v hv'
           have hnd:(S1++S).Nodup:=by
             have n1:=g1.nd id; rw [hFS] at n1
             refine List.nodup_append.2 ⟨(List.nodup_append.1 n1).1,g1.ne,?_⟩
             rintro x hx y hy rfl
             exact g1.de id x (by rw [hFS]; simp [hx]) hy
           have hnd2:∀ x∈S1++S,x∈F' id∨x∈S:=by
             intro x hx
             rcases List.mem_append.1 hx with hx | hx
             · left; rw [hFS]; simp [hx]
             · right; exact hx
           by_cases hroom:len+rows.length≤cap
           · have hcsz:cur.size=cap*i.size:=by rw [q3,hBsz]
             have hfit:len*i.size+news.length≤cur.size:=by rw [hnl,hcsz,←Nat.add_mul]; exact Nat.mul_le_mul_right _ hroom
             have run:=run_app_room (P:=P) (w:=w) (ty:=ty) (t2:=t2) (u:=u) ht ht2 hi (y := .slice A rows.length c) ⟨A,c,rfl⟩ hf g4 q1 hroom hfit
             have htake:cur.toList.take (len*i.size)++news++cur.toList.drop (len*i.size+news.length)=(v1++news)++cur.toList.drop (len*i.size+news.length):=by
               congr 2
               rw [q2,←hBsz,←hv1,List.append_assoc,List.take_left]
             rw [htake] at run
             obtain ⟨m1,m2⟩:=g1.chg (w':=w.setRow b ((v1++news)++cur.toList.drop (len*i.size+news.length)).toArray) (N':=N+1) (E':=[]) N id ⟨false,i.size,B.rows.take len++rows⟩ (.at b i.size cap) (S1++S) (by omega) (by omega) (.inr (Nat.le_refl _)) (fun hlt=>absurd hlt (Nat.lt_irrefl _))
               ⟨rfl,rfl,rfl,by simp,fun k hk=>setRow_other w b k _ (fun he=>by have:=g1.lo b ⟨id,_,cap,hl⟩; omega)⟩
               (fun b' hb' hne=>setRow_other w b b' _ (fun he=>hne _ cap (he ▸ hl)))
               (fun b' sz' cap' he=>by cases he; exact ⟨g1.lo b ⟨id,_,cap,hl⟩,by rw [size_setRow]; exact lt_of_heap q1,.inl ⟨_,cap,hl⟩⟩)
               (fun L' e hL'=>BRel.of ⟨rfl,by simp,_,u,v1++news,cur.toList.drop (len*i.size+news.length),setRow_heap w b cur _ u (0,0) q1,by simp,by
                   have:((v1++news)++cur.toList.drop (len*i.size+news.length)).length=cur.size:=by
                     simp only [List.length_append,List.length_drop,hv1,hBsz,Array.length_toList]; omega
                   rw [List.size_toArray,this,hcsz],hpos,q5,by rw [hrowsl]; exact hroom,by rw [hrowsl]; exact hlim,hrsz,hone,by
                   simp only [Bool.false_eq_true,if_false]
                   rw [VRr_iff,List.flatten_append,VRl_append]
                   exact ⟨v1,news,S1,S,rfl,rfl,VRr_iff.1 (VRr_ext e.zero _ _ _ k1),VRr_iff.1 (VRr_ext e.zero _ _ _ g3)⟩⟩)
               (by simpa using hnd) (fun x hx=>hnd2 x (by simpa using hx))
             refine .of_value (v := .slice (some ⟨b,0,Option.none⟩) (len+rows.length) cap) (w':=_) ?_ ⟨_,_,_,_,_,m1,m2,?_,hK⟩
             · rw [he,g2,Sem.run_bind,run]; rfl
             · simp only [VR]
               refine ⟨⟨by omega,rfl,?_⟩,trivial⟩
               intro l hl'; rw [upd_same] at hl'; cases hl'
               exact ⟨hlim,some ⟨b,0,Option.none⟩,by simp,by simp,by omega⟩
           · have hcells:cellsAt w b 0 v1:=by
               have:=cells_of_row (w:=w) (pre:=[]) (vals:=v1) (rest:=v2++rest) q1 (by rw [q2]; simp)
               simpa using this
             have run:=run_app_grow (P:=P) (w:=w) (ty:=ty) (t2:=t2) ht ht2 hi hz (y := .slice A rows.length c) ⟨A,c,rfl⟩ hf (b:=⟨b,0,Option.none⟩) (sLen:=len) (sCap:=cap) (olds:=v1) (by rw [hv1,hBsz]) (fun j v hj=>by rw [addr_add]; exact hcells j v hj) (by omega) h2 hlim
             have hge:=grownCap_ge w (len+rows.length) cap e
             have hcm:=grownCap_le_maxLen w (len+rows.length) cap e (by simp only [maxLen]; omega)
             have Hk:=g1.kill id (E':=S1++S) hnd hnd2
             have ek:=Ext.kill w L N id
             obtain ⟨Hd,ed⟩:=Hk.drew
             obtain ⟨L2,F2,m1,m2,m3⟩:=Hd.newRows (t:=e) (rows:=B.rows.take len++rows) (sz:=i.size) (cap:=grownCap w (len+rows.length) cap e) (vals:=v1++news) (rest:=(Builtin.zeroCells z.cells (grownCap w (len+rows.length) cap e - (len+rows.length))).toList)
               (by
                 rw [VRr_iff,List.flatten_append,VRl_append]
                 exact ⟨v1,news,S1,S,rfl,rfl,VRr_iff.1 (VRr_ext (ek.trans ed).zero _ _ _ k1),VRr_iff.1 (VRr_ext (ek.trans ed).zero _ _ _ g3)⟩) hone hpos hrsz (by rw [hrowsl]; exact hlim) (by rw [hrowsl]; exact hge) hcm (by
                 rw [List.length_append,List.length_append,hv1,hnl,zeroCells_len,hzs,hBsz,←Nat.add_mul,←Nat.add_mul]; congr 1; omega)
             have harr:(v1++news++(Builtin.zeroCells z.cells (grownCap w (len+rows.length) cap e - (len+rows.length))).toList).toArray=v1.toArray++news.toArray++Builtin.zeroCells z.cells (grownCap w (len+rows.length) cap e - (len+rows.length)):=by
               apply Array.ext'; simp
             rw [harr] at m1 m2 m3
             rw [hrowsl] at m2
             refine .of_value (v := .slice (some ⟨w.heap.size,0,Option.none⟩) (len+rows.length) (grownCap w (len+rows.length) cap e)) (w':=_) ?_ ⟨_,_,_,_,_,m1,(ek.trans ed).trans m3,m2,hK⟩
             rw [he,g2,Sem.run_bind,run]; rfl
     · exact hK.elim
   · exact hK.elim
 · exact hK.elim
end
open Go Go.RowKit
def matchG:AV→Value→Bool
 | .agg z,.agg cs=>matchL z cs.toList
 | a,v=>matchV a v
theorem VR_matchG {w:World} {L:Nat→Option Loc} {N:Nat} {a:AV} {v:Value} (h:matchG a v=true):VR w L N a v []:=by
 unfold matchG at h
 split at h
 · simp only [VR]; exact ⟨_,rfl,(VRl_matchL h).1⟩
 · exact VR_matchV h
section
variable {P:Program} {base:Nat} {w0 w:World} {L:Nat→Option Loc} {N:Nat} {F:Nat→List Nat} {h:Heap} {s:Nat→AV} {a:Act} {K:AV→Heap→Nat→Prop}
theorem sameNow_str (x y:ByteArray):Instr.sameNow .string (.string x) (.string y)=some (x==y):=rfl
theorem bytes_ext {x y:ByteArray} (h:x.data.toList=y.data.toList):x=y:=by
 obtain ⟨x⟩:=x
 obtain ⟨y⟩:=y
 simp only at h
 rw [Array.ext' h]
theorem ERel.look {key:List UInt8} {kb:ByteArray} (hk:VR w L N (.str key) (.string kb) []):∀ {rs:List (List AV)} {es:List MapEntry} (i:Nat),ERel w L N rs es →
   (mfind rs key=Option.none∧Instr.findNow .string (.string kb) es i=some Option.none∧∀ x v born,VR w L N x v []→ERel w L N (mset rs key x) (es++[⟨.string kb,v,born⟩])) ∨
   ∃ a0 j v0 e0,mfind rs key=some a0∧Instr.findNow .string (.string kb) es i=some (some (i+j,v0))∧VR w L N a0 v0 []∧es[j]? = some e0∧e0.key = .string kb ∧
     ∀ x v,VR w L N x v []→ERel w L N (mset rs key x) (es.modify j fun e => { e with key := .string kb,val:=v })
 | [],es,i,h=>by
   simp only [ERel] at h; subst h
   exact .inl ⟨rfl,rfl,fun x v born hx=>⟨_,[],key,x,rfl,rfl,hk,hx,rfl⟩⟩
 | _::rs,_,i,⟨e,es',k,a,rfl,rfl,h3,h4,h5⟩=>by
   have hk':=hk
   simp only [VR] at h3 hk'
   obtain ⟨⟨b,hb,hbl,hlim⟩,_⟩:=h3
   obtain ⟨⟨b',hb',hbl',_⟩,_⟩:=hk'
   cases hb'
   by_cases hkk:k=key
   · have hbb:b=kb:=bytes_ext (by rw [hbl,hbl',hkk])
     subst hbb
     refine .inr ⟨a,0,e.val,e,by simp [mfind,hkk],?_,h4,rfl,hb,fun x v hx => ?_⟩
     · simp only [Instr.findNow,hb,sameNow_str]
       have:(b==b)=true:=(MapKept.bytes_beq b b).2 rfl
       rw [this]; simp
     · simp only [mset,hkk,if_true]
       exact ⟨_,es',key,x,rfl,rfl,hk,hx,h5⟩
   · have hbb:(kb==b)=false:=by
       rw [Bool.eq_false_iff]; intro h'
       have:=(MapKept.bytes_beq kb b).1 h'
       exact hkk (by rw [←hbl,←hbl',this])
     have hf:Instr.findNow .string (.string kb) (e::es') i=Instr.findNow .string (.string kb) es' (i+1):=by
       simp only [Instr.findNow,hb,sameNow_str,hbb]
     rcases h5.look hk (i+1) with ⟨g1,g2,g3⟩ | ⟨a0,j,v0,e0,g1,g2,g3,g4,g5,g6⟩
     · refine .inl ⟨by simp only [mfind,hkk,if_false]; exact g1,by rw [hf]; exact g2,fun x v born hx => ?_⟩
       simp only [mset,hkk,if_false]
       exact ⟨e,_,k,a,rfl,rfl,by simp only [VR]; exact ⟨⟨b,hb,hbl,hlim⟩,trivial⟩,h4,g3 x v born hx⟩
     · refine .inr ⟨a0,j+1,v0,e0,by simp only [mfind,hkk,if_false]; exact g1,by rw [hf,g2,Nat.add_assoc,Nat.add_comm 1 j],g3,by simpa using g4,g5,fun x v hx => ?_⟩
       simp only [mset,hkk,if_false]
       exact ⟨e,_,k,a,by simp,rfl,by simp only [VR]; exact ⟨⟨b,hb,hbl,hlim⟩,trivial⟩,h4,g6 x v hx⟩
theorem ERel.length:∀ {rs:List (List AV)} {es:List MapEntry},ERel w L N rs es→es.length=rs.length
 | [],_,h=>by simp only [ERel] at h; subst h; rfl
 | _::_,_,⟨e,es',k,a,rfl,_,_,_,h5⟩=>by simp [h5.length]
theorem HRel.mapAt (H:HRel base w0 w L N F [] h) {id:Nat} {B:Blk} {v:Value} (hB:h id=some B) (hv:VR w L N (.mp id) v []) :
   ∃ b cap es clock,v = .map (some b)∧L id=some (.at b 0 cap)∧w.heap[b]? = some (.map es clock)∧ERel w L N B.rows es.toList:=by
 cases hl:L id with
 | none=>rw [H.mod id hl] at hB; cases hB
 | some l=>
   simp only [VR] at hv
   have hm:=hv.1.2.2 l hl
   have hbr:=H.blk id B l hB hl
   cases l with
   | none=>exact hm.elim
   | «at» b sz cap=>
     obtain ⟨rfl,rfl⟩:=hm
     obtain ⟨_,es,clock,h1,h2⟩:=hbr.2.2.2 rfl
     exact ⟨b,cap,es,clock,rfl,rfl,h1,h2⟩
theorem ok_mmk {t:TypeId} (H:HRel base w0 w L N F [] h) (hK:aop P s h N K .mmk):Gives P (do pure (.value (←Instr.makeMap t Option.none))) w (Post base w0 w L N K):=by
 obtain ⟨g1,g2⟩:=H.chg (w':=w.alloc (.map #[] 0)) (N':=N+1) (E':=[]) N N ⟨true,0,[]⟩ (.at w.heap.size 0 0) [] (by omega) (by omega) (.inl rfl) (fun hlt=>absurd hlt (Nat.lt_irrefl _))
   ((Below.refl base w).alloc H.bsz _) (fun b hb _=>heap_alloc_old w _ _ hb) (fun b sz cap he=>by cases he; exact ⟨H.bsz,by simp,.inr (Nat.le_refl _)⟩)
   (fun L' e hL'=>⟨rfl,fun _=>rfl,fun hp=>absurd hp (Nat.lt_irrefl _),fun _=>⟨rfl,#[],0,heap_alloc_new w _,rfl⟩⟩) (by simp) (by simp)
 have hh:upd (upd h N Option.none) N (some (⟨true,0,[]⟩:Blk))=upd h N (some ⟨true,0,[]⟩):=by funext i; simp only [upd]; split <;> rfl
 rw [hh] at g1
 refine .of_value (v := .map (some w.heap.size)) (w':=w.alloc (.map #[] 0)) (by simp [Instr.makeMap]) ⟨.mp N,_,_,_,_,g1,g2,?_,hK⟩
 simp only [VR]
 refine ⟨⟨by omega,rfl,?_⟩,trivial⟩
 intro l hl
 rw [upd_same] at hl; cases hl
 exact ⟨rfl,rfl⟩
theorem ok_mlen {t ty:TypeId} {x:Operand} {x':Opd} {kt e:TypeId} (H:HRel base w0 w L N F [] h) (hs:SRel w L N s a.tmps) (hx:∃ t,compX P t x=some x')
   (ht:P.underlying t=some (.map kt e)) (hK:aop P s h N K (.mlen x')):Gives P (do pure (.value (←Builtin.len_ #[t] ty #[a.eval x]))) w (Post base w0 w L N K):=by
 obtain ⟨t',hx⟩:=hx
 have hv:=compX_sound hx hs
 simp only [aop] at hK
 split at hK
 · rename_i id hev
   rw [hev] at hv
   unfold onO at hK
   split at hK
   · rename_i B hB
     obtain ⟨b,cap,es,clock,he,hl,hb,hE⟩:=H.mapAt hB hv
     have hlen:=hE.length
     refine .of_value (v := .int .i64 B.rows.length) (w':=w) ?_ (Post.same H (mk_int _ _) hK)
     simp [Builtin.len_,run_underlying ht,he,MapKept.run_getObj_map hb,goInt,←hlen]
   · exact hK.elim
 · exact hK.elim
theorem ok_mget {t kt e:TypeId} {x k:Operand} {x' k':Opd} {i:TypeInfo} {zv:Value} {z:AV} (H:HRel base w0 w L N F [] h) (hs:SRel w L N s a.tmps) (hx:∃ t,compX P t x=some x') (hk:∃ t,compX P t k=some k')
   (ht:P.underlying t=some (.map kt e)) (hkt:P.underlying kt=some .string) (hi:P.info? e=some i) (hz:i.zero=some zv) (hzm:matchG z zv=true)
   (hK:aop P s h N K (.mget z x' k')):Gives P (do pure (.value (←Instr.lookup t (a.eval x) (a.eval k) false))) w (Post base w0 w L N K):=by
 obtain ⟨t1,hx⟩:=hx
 obtain ⟨t2,hk⟩:=hk
 have hv:=compX_sound hx hs
 have hu:=compX_sound hk hs
 simp only [aop] at hK
 split at hK
 · rename_i id key hev hek
   rw [hev] at hv
   rw [hek] at hu
   unfold onO at hK
   split at hK
   · rename_i B hB
     obtain ⟨b,cap,es,clock,he,hl,hb,hE⟩:=H.mapAt hB hv
     obtain ⟨kb,hkb⟩:∃ kb:ByteArray,a.eval k = .string kb:=by simp only [VR] at hu; obtain ⟨⟨kb,h1,_⟩,_⟩:=hu; exact ⟨kb,h1⟩
     rw [hkb] at hu
     have hc:(Instr.checkKey es.isEmpty 10000 kt (.string kb)).run P w = .ok () w:=MapKept.run_checkKey (d := .string) (k := .string kb) hkt trivial _ 9999
     rcases hE.look hu 0 with ⟨g1,g2,_⟩ | ⟨a0,j,v0,e0,g1,g2,g3,_⟩
     · rw [g1] at hK
       refine .of_value (v:=zv) (w':=w) ?_ (Post.same H (VR_matchG hzm) hK)
       simp [Instr.lookup,run_underlying ht,he,hkb,MapKept.run_getObj_map hb,hc,MapKept.run_findKey hkt g2,zeroValue,typeInfo,hi,hz]
     · rw [g1] at hK
       refine .of_value (v:=v0) (w':=w) ?_ (Post.same H g3 hK)
       simp [Instr.lookup,run_underlying ht,he,hkb,MapKept.run_getObj_map hb,hc,MapKept.run_findKey hkt g2]
   · exact hK.elim
 · exact hK.elim
theorem HRel.setMap (H:HRel base w0 w L N F [] h) {id b cap:Nat} {B:Blk} {es es':Array MapEntry} {clock clock':Nat} {rows:List (List AV)} (hB:h id=some B) (hl:L id=some (.at b 0 cap)) (hb:w.heap[b]? = some (.map es clock))
   (hE:ERel w L N rows es'.toList):HRel base w0 { w with heap:=w.heap.setIfInBounds b (.map es' clock') } (upd (upd L id Option.none) id (some (.at b 0 cap))) N (upd (upd F id []) id []) [] (upd h id (some ⟨true,0,rows⟩)) ∧
     Ext w L N { w with heap:=w.heap.setIfInBounds b (.map es' clock') } (upd (upd L id Option.none) id (some (.at b 0 cap))) N:=by
 have hid:=H.lt id _ hl
 have hlo:=H.lo b ⟨id,0,cap,hl⟩
 obtain ⟨k1,k2⟩:=MapKept.heap_set (o' := .map es' clock') hb
 obtain ⟨g1,g2⟩:=H.chg (w' := { w with heap:=w.heap.setIfInBounds b (.map es' clock') }) (N':=N) (E':=[]) id id ⟨true,0,rows⟩ (.at b 0 cap) [] (Nat.le_refl _) hid (.inl rfl) (fun _=>hl)
   ⟨rfl,rfl,rfl,by simp,fun k hk=>k2 k (by omega)⟩ (fun b' hb' hne=>k2 b' (fun he=>hne 0 cap (he ▸ hl)))
   (fun b' sz' cap' he=>by cases he; exact ⟨hlo,by simpa using lt_of_heap hb,.inl ⟨0,cap,hl⟩⟩)
   (fun L' e hL'=>⟨rfl,fun _=>rfl,fun hp=>absurd hp (Nat.lt_irrefl _),fun _=>⟨rfl,es',clock',k1,hE.ext e⟩⟩) (by simp) (by simp)
 have hh:upd (upd h id Option.none) id (some (⟨true,0,rows⟩:Blk))=upd h id (some ⟨true,0,rows⟩):=by funext i; simp only [upd]; split <;> rfl
 rw [hh] at g1
 exact ⟨g1,g2⟩
theorem ok_mput {t kt e:TypeId} {x k v:Operand} {x' k' v':Opd} (H:HRel base w0 w L N F [] h) (hs:SRel w L N s a.tmps) (hx:∃ t,compX P t x=some x') (hk:∃ t,compX P t k=some k') (hvv:∃ t,compX P t v=some v')
   (ht:P.underlying t=some (.map kt e)) (hkt:P.underlying kt=some .string)
   (hK:aop P s h N K (.mput x' k' v')):Gives P (do Instr.mapUpdate t (a.eval x) (a.eval k) (a.eval v); pure .skip) w (Post base w0 w L N K):=by
 obtain ⟨t1,hx⟩:=hx
 obtain ⟨t2,hk⟩:=hk
 obtain ⟨t3,hvv⟩:=hvv
 have hv:=compX_sound hx hs
 have hu:=compX_sound hk hs
 have hy:=compX_sound hvv hs
 simp only [aop] at hK
 split at hK
 · rename_i id key hev hek
   rw [hev] at hv
   rw [hek] at hu
   unfold onO at hK
   split at hK
   · rename_i B hB
     obtain ⟨b,cap,es,clock,he,hl,hb,hE⟩:=H.mapAt hB hv
     obtain ⟨kb,hkb⟩:∃ kb:ByteArray,a.eval k = .string kb:=by simp only [VR] at hu; obtain ⟨⟨kb,h1,_⟩,_⟩:=hu; exact ⟨kb,h1⟩
     rw [hkb] at hu
     have hc:(Instr.checkKey false 10000 kt (.string kb)).run P w = .ok () w:=MapKept.run_checkKey (d := .string) (k := .string kb) hkt trivial _ 9999
     rcases hE.look hu 0 with ⟨g1,g2,g3⟩ | ⟨a0,j,v0,e0,g1,g2,g3,g4,g5,g6⟩
     · have hE':=g3 (ev s v') (a.eval v) clock hy
       obtain ⟨m1,m2⟩:=H.setMap (es':=es.push ⟨.string kb,a.eval v,clock⟩) (clock':=clock+1) hB hl hb (by simpa using hE')
       refine .of_skip (w' := { w with heap:=w.heap.setIfInBounds b (.map (es.push ⟨.string kb,a.eval v,clock⟩) (clock+1)) }) ?_ ⟨.tup [],_,_,_,_,m1,m2,by simp [VR,VRl,undef],hK⟩
       simp [Instr.mapUpdate,run_underlying ht,he,hkb,MapKept.run_getObj_map hb,hc,MapKept.run_findKey hkt g2,MapKept.run_setObj_map _ hb]
     · have hE':=g6 (ev s v') (a.eval v) hy
       obtain ⟨m1,m2⟩:=H.setMap (es':=es.modify j fun e => { e with key := .string kb,val:=a.eval v }) (clock':=clock) hB hl hb (by simpa [Array.toList_modify] using hE')
       have hget:es[j]? = some e0:=by simpa using g4
       have hsame:(kb==kb)=true:=(MapKept.bytes_beq kb kb).2 rfl
       rw [Nat.zero_add] at g2
       refine .of_skip (w' := { w with heap:=w.heap.setIfInBounds b (.map (es.modify j fun e => { e with key := .string kb,val:=a.eval v }) clock) }) ?_ ⟨.tup [],_,_,_,_,m1,m2,by simp [VR,VRl,undef],hK⟩
       simp [Instr.mapUpdate,run_underlying ht,he,hkb,MapKept.run_getObj_map hb,hc,MapKept.run_findKey hkt g2,MapKept.run_setObj_map _ hb,hget,g5,Instr.keyThatStays,Instr.sameBits,hsame]
   · exact hK.elim
 · exact hK.elim
end
open Go Go.RowKit
section
variable {P:Program} {base:Nat} {w0 w:World} {L:Nat→Option Loc} {N:Nat} {F:Nat→List Nat} {E:List Nat} {h:Heap} {s:Nat→AV} {a:Act} {K:AV→Heap→Nat→Prop}
theorem srcRowsB_sound (H:HRel base w0 w L N F [] h) {y:AV} {v:Value} {sz:Nat} {rows:List (List AV)} (hv:VR w L N y v []) (hy:srcRowsB h y=some (sz,rows)) :
   ∃ A c news,v = .slice A rows.length c∧VRr w L N rows news []∧one news∧rows.length≤LIM∧(∀ r∈rows,r.length=sz) ∧
     (rows=[]∨∃ b o,A=some ⟨b,o,Option.none⟩∧cellsAt w b o news):=by
 have up:∀ {rs:List (List AV)} {vs:List Value},VRr w L 0 rs vs []→VRr w L N rs vs []:=fun hr=>
   VRr_ext ⟨Nat.zero_le _,fun _ _ hid=>absurd hid (Nat.not_lt_zero _),Nat.le_refl _,fun _ _ h=>⟨rfl,h⟩⟩ _ _ _ hr
 unfold srcRowsB at hy
 split at hy
 · simp only [Option.some.injEq,Prod.mk.injEq] at hy
   obtain ⟨rfl,rfl⟩:=hy
   simp only [VR] at hv
   obtain ⟨⟨A,cap,vals,rfl,⟨hlim,_⟩,hr,hb⟩,_⟩:=hv
   rcases hb with rfl | ⟨b,o,rfl,ho,hb,hsz,hc,hone⟩
   · exact ⟨A,cap,[],rfl,⟨rfl,rfl⟩,by simp [one],hlim,by simp,.inl rfl⟩
   · exact ⟨_,cap,vals,rfl,up hr,hone,hlim,hsz,.inr ⟨b,o,rfl,hc⟩⟩
 · simp only [Option.some.injEq,Prod.mk.injEq] at hy
   obtain ⟨rfl,rfl⟩:=hy
   simp only [VR] at hv
   exact ⟨Option.none,0,[],hv.1,⟨rfl,rfl⟩,by simp [one],Nat.zero_le _,by simp,.inl rfl⟩
 · rename_i id off len
   split at hy
   · rename_i B hB
     split at hy
     · rename_i hle
       simp only [Option.some.injEq,Prod.mk.injEq] at hy
       obtain ⟨rfl,hrows⟩:=hy
       cases hbox:B.box
       · rw [hbox] at hrows
         simp only [Bool.false_eq_true,if_false] at hrows
         subst hrows
         have hq:srcRows h (.ref id off len)=some (B.sz,(B.rows.drop off).take len,upd h id (some ⟨false,B.sz,drr B.rows⟩)):=by simp only [srcRows,hB]; rw [if_pos ⟨hbox,hle⟩]
         obtain ⟨F',S,A,c,news,k1,k2,k3,k4,k5,k6,k7⟩:=srcRows_sound H hv hq
         refine ⟨A,c,news,by rw [drr_len]; exact k2,up (VRr_dr _ _ _ k3),k4,by rw [drr_len]; exact k5,?_,?_⟩
         · intro r hr
           rw [drr_eq] at hr
           obtain ⟨r',hr',rfl⟩:=List.mem_map.1 hr
           rw [drl_eq,List.length_map]; exact k6 r' hr'
         · rcases k7 with h0 | h1
           · left; rw [h0]; rfl
           · exact .inr h1
       · rw [hbox] at hrows
         simp only [if_true] at hrows
         subst hrows
         simp only [VR] at hv
         cases hl:L id with
         | none=>rw [H.mod id hl] at hB; cases hB
         | some l=>
           have hp:=hv.1.2.2 l hl
           have hbr:=H.blk id B l hB hl
           have hlenT:((B.rows.drop off).take len).length=len:=by simp; omega
           cases l with
           | none=>
             obtain ⟨hrows,hF⟩:=hbr
             obtain ⟨_,rfl,rfl,rfl⟩:=hp
             exact ⟨Option.none,0,[],by simp [hrows],by simp [hrows,VRr],by simp [one],by simp [hrows],by simp [hrows],.inl (by simp [hrows])⟩
           | «at» b sz cap=>
             obtain ⟨hlim,A,rfl,hA,hcap⟩:=hp
             obtain ⟨rfl,h0,cur,t,vals,rest,g1,g2,g3,g4,g5,g6,g7,g8,g9,g10⟩:=hbr.cells hcap.2
             have h10:=g10
             simp only [hbox,if_true] at h10
             rw [h0 hbox] at h10
             obtain ⟨v1,v2,S1,S2,rfl,hS,k1,k2⟩:=VRr_take off h10
             obtain ⟨rfl,rfl⟩:=List.append_eq_nil_iff.1 hS.symm
             obtain ⟨v3,v4,S3,S4,rfl,hS',k3,k4⟩:=VRr_take len k2
             obtain ⟨rfl,rfl⟩:=List.append_eq_nil_iff.1 hS'.symm
             have hv1:v1.length=off*B.sz:=by
               rw [VRr_length (fun r hr=>g8 r (List.mem_of_mem_take hr)) k1,List.length_take,Nat.min_eq_left (by omega)]
             refine ⟨A,_,v3,by rw [hlenT],k3,fun v hv=>g9 v (by simp [hv]),by rw [hlenT]; exact hlim,fun r hr=>g8 r (List.mem_of_mem_drop (List.mem_of_mem_take hr)),?_⟩
             by_cases h00:len=0
             · left; rw [h00,List.take_zero]
             · right
               refine ⟨b,off*B.sz,hA (.inl (by omega)),?_⟩
               rw [←hv1]
               exact cells_of_row (pre:=v1) (vals:=v3) (rest:=v4++rest) g1 (by rw [g2]; simp)
     · cases hy
   · cases hy
 · cases hy
theorem ok_bslb {t e:TypeId} {i:TypeInfo} {zv:Value} {parts:Array (Nat×Operand)} {ps:List Opd} (H:HRel base w0 w L N F [] h) (hs:SRel w L N s a.tmps)
   (ht:P.underlying t=some (.slice e)) (hi:P.info? e=some i) (hz:i.zero=some zv) (hpos:0<i.size) (hbig:parts.size*i.size≤2 ^ 24) (hzs:zv.cells.size=i.size)
   (hidx:parts.toList.map (·.1)=List.range parts.size) (hp:parts.toList.mapM (fun p=>compX P e p.2)=some ps)
   (hK:aop P s h N K (.bslb i.size ps)):Gives P (do pure (.value (←Instr.buildSlice t parts.size (parts.map fun (j,x)=>(j,a.eval x))))) w (Post base w0 w L N K):=by
 simp only [aop] at hK
 obtain ⟨hall,hK⟩:=hK
 · obtain ⟨hlen,hget⟩:=mapM_zip _ _ _ hp
   have hvl:VRl w L N (ps.map (ev s)) (parts.toList.map fun p=>a.eval p.2) []:=by
     clear hK hall hidx hbig
     generalize parts.toList=l at hp hlen hget
     clear hp
     induction l generalizing ps with
     | nil=>cases ps with
       | nil=>exact ⟨rfl,rfl⟩
       | cons=>simp at hlen
     | cons p l ih=>cases ps with
       | nil=>simp at hlen
       | cons x ps=>
         simp only [List.map_cons]
         refine VRl_nil_cons.2 ⟨_,_,rfl,compX_sound (hget 0 p x rfl rfl) hs,ih (by simpa using hlen) fun j u v hu hv=>hget (j+1) u v (by simpa using hu) (by simpa using hv)⟩
   have g2:=hvl
   have hl2:=VRl_length g2
   have hqlen:(ps.map (ev s)).length=parts.size:=by rw [←hl2]; simp
   have hallx:∀ x∈ps.map (ev s),(cellsOf x).length=i.size∧(cellsOf x).all isCell=true:=by
     intro x hx
     obtain ⟨p,hp',rfl⟩:=List.mem_map.1 hx
     have:=List.all_eq_true.1 hall p hp'; simp only [Bool.and_eq_true,beq_iff_eq] at this; exact this
   have hall1:((ps.map (ev s)).all fun a=>(cellsOf a).all isCell)=true:=List.all_eq_true.2 fun x hx=>(hallx x hx).2
   obtain ⟨k1,k2⟩:=VRr_cellsOf g2 hall1
   have hrow:∀ r∈(ps.map (ev s)).map cellsOf,r.length=i.size:=by
     intro r hr
     obtain ⟨x,hx,rfl⟩:=List.mem_map.1 hr
     exact (hallx x hx).1
   have hcsz:∀ v∈parts.toList.map (fun p=>a.eval p.2),v.cells.size=i.size:=by
     intro v hv
     obtain ⟨j,hj⟩:=List.mem_iff_getElem?.1 hv
     have hj':=(List.getElem?_eq_some_iff.1 hj).1
     have hjq:j<(ps.map (ev s)).length:=by rw [←hl2]; exact hj'
     have hx:=List.getElem?_eq_getElem hjq
     obtain ⟨v',S',e1,e2,_⟩:=VRl_get g2 hx
     rw [hj] at e1; cases e1
     have hc:=List.all_eq_true.1 hall1 _ (List.getElem_mem hjq)
     have:=VRl_length (VRl_cellsOf e2 hc).1
     rw [Array.length_toList] at this
     rw [this]; exact hrow _ (List.mem_map.2 ⟨_,List.getElem_mem hjq,rfl⟩)
   have hcells0:((Array.range (parts.size*i.size)).map fun x=>(if parts.size*i.size=0 then #[] else zv.cells)[x % (if parts.size*i.size=0 then #[] else zv.cells).size]!).size=parts.size*i.size:=by simp
   obtain ⟨o,f1,f2⟩:=fill_seq i.size (parts.toList.map fun p=>a.eval p.2) 0 ((Array.range (parts.size*i.size)).map fun x=>(if parts.size*i.size=0 then #[] else zv.cells)[x % (if parts.size*i.size=0 then #[] else zv.cells).size]!)
     hcsz (by rw [hcells0]; simp)
   have hzip:(parts.map fun (j,x)=>(j,a.eval x)).toList=(List.range' 0 (parts.toList.map fun p=>a.eval p.2).length).zip (parts.toList.map fun p=>a.eval p.2):=by
     rw [←List.range_eq_range',List.length_map,Array.length_toList,←hidx]
     simp only [Array.toList_map]
     generalize parts.toList=l
     induction l with
     | nil=>rfl
     | cons p l ih=>simp [ih]
   have hol:o.toList=(List.map (fun v=>v.cells.toList) (List.map (fun p=>a.eval p.2) parts.toList)).flatten++[]:=by
     rw [f2,List.drop_of_length_le (by rw [Array.length_toList,hcells0]; simp)]; simp
   have hfl:(List.map (fun v=>v.cells.toList) (List.map (fun p=>a.eval p.2) parts.toList)).flatten.length=parts.size*i.size:=by
     rw [VRr_length hrow k1,List.length_map,hqlen]
   have hmaxl:parts.size≤2 ^ 24:=Nat.le_trans (Nat.le_mul_of_pos_right _ hpos) hbig
   obtain ⟨L2,F2,m1,m2,m3⟩:=H.newRowsB (t:=e) (rest:=[]) (sz:=i.size) (cap:=parts.size) k1 k2 hpos hrow (by rw [List.length_map,hqlen]; simp only [LIM]; omega) (by rw [List.length_map,hqlen]; exact Nat.le_refl _)
     (by simp only [maxLen]; omega) (by rw [List.append_nil,hfl])
   rw [←hol,Array.toArray_toList] at m1 m2 m3
   rw [List.length_map,hqlen] at m2
   have hps:ps.length=parts.size:=by rw [hlen,Array.length_toList]
   rw [hps] at hK
   refine .of_value (v := .slice (some ⟨w.heap.size,0,Option.none⟩) parts.size parts.size) (w':=w.alloc (.cells o e)) ?_ ⟨_,_,_,_,_,m1,m3,m2,by simpa [Function.comp_def] using hK⟩
   have hnb:¬(parts.size*i.size>2 ^ 24):=by omega
   have f1':=f1
   rw [←hzip] at f1'
   simp only [Instr.buildSlice,Sem.run_bind,run_underlying ht,Result.andThen_ok,run_sizeOf hi,if_neg hnb,Sem.run_pure,newRow]
   by_cases hh:parts.size*i.size=0
   · simp only [hh,if_true] at f1' ⊢
     simp only [Sem.run_bind,Sem.run_pure,Result.andThen_ok,f1']
     simp
   · simp only [hh,if_false] at f1' ⊢
     simp only [Sem.run_bind,zeroValue,typeInfo,Sem.run_pure,Result.andThen_ok]
     simp only [Array.toList_map] at f1'
     simp [hi,hz]
     rw [f1']
     simp
theorem app_newB {t ty e t2:TypeId} {i:TypeInfo} {z:Value} (ht:P.underlying t=some (.slice e)) (ht2:∃ e',P.underlying t2=some (.slice e')) (hi:P.info? e=some i) (hz:i.zero=some z) (hzs:z.cells.size=i.size) (hpos:0<i.size) (hby:0<i.bytes)
   (H:HRel base w0 w L N F [] h) {rows:List (List AV)} {A:Option Addr} {c:Nat} {news:List Value} (hr:VRr w L N rows news []) (h1:one news) (hsz:∀ r∈rows,r.length=i.size)
   (hc:rows=[]∨∃ b o,A=some ⟨b,o,Option.none⟩∧cellsAt w b o news) (hb:rows.length*i.bytes≤LIM) :
   ∃ v w' L' F',(Builtin.append_ #[t,t2] ty #[.slice Option.none 0 0,.slice A rows.length c]).run P w = .ok v w' ∧
     HRel base w0 w' L' (N+1) F' [] (upd h N (some ⟨true,i.size,rows⟩))∧VR w' L' (N+1) (.ref N 0 rows.length) v []∧Ext w L N w' L' (N+1):=by
 have hnl:=VRr_length hsz hr
 have hf:=src_of (P:=P) (size:=i.size) (c:=c) hnl hc
 have hlim:rows.length≤LIM:=Nat.le_trans (Nat.le_mul_of_pos_right _ hby) hb
 have hLIM:LIM=140737488355328:=rfl
 by_cases hm:rows.length=0
 · have hrows:rows=[]:=List.eq_nil_of_length_eq_zero hm
   subst hrows
   simp only [VRr] at hr
   obtain ⟨rfl,_⟩:=hr
   have run:=run_app_nil0 (P:=P) (w:=w) (ty:=ty) ht ht2 hi (y := .slice A 0 c) ⟨A,c,rfl⟩ hf
   obtain ⟨m1,m2⟩:=H.chg (w':=w) (N':=N+1) (E':=[]) N N ⟨true,i.size,[]⟩ .none [] (by omega) (by omega) (.inl rfl) (fun hlt=>absurd hlt (Nat.lt_irrefl _)) (Below.refl _ _) (fun _ _ _=>rfl) (fun _ _ _ he=>by cases he)
     (fun L' e hL'=>⟨rfl,rfl⟩) (by simp) (by simp)
   have hu:upd (upd h N Option.none) N (some ⟨true,i.size,[]⟩)=upd h N (some ⟨true,i.size,[]⟩):=by funext j; simp only [upd]; split <;> rfl
   rw [hu] at m1
   refine ⟨_,w,_,_,run,m1,?_,m2⟩
   simp only [VR]
   refine ⟨⟨by omega,rfl,?_⟩,trivial⟩
   intro l hl; rw [upd_same] at hl; cases hl
   exact ⟨Nat.zero_le _,rfl,rfl,rfl⟩
 · have run:=run_app_nil (P:=P) (w:=w) (ty:=ty) ht ht2 hi hz (y := .slice A rows.length c) ⟨A,c,rfl⟩ hf (by omega) hb hlim
   have hge:=grownCap_ge w rows.length 0 e
   have hcm:=grownCap_le_maxLen w rows.length 0 e (by simp only [maxLen]; omega)
   obtain ⟨Hd,ed⟩:=H.drew
   obtain ⟨L2,F2,m1,m2,m3⟩:=Hd.newRowsB (t:=e) (rows:=rows) (sz:=i.size) (cap:=grownCap w rows.length 0 e) (vals:=news) (rest:=(Builtin.zeroCells z.cells (grownCap w rows.length 0 e - rows.length)).toList)
     (VRr_ext ed _ _ _ hr) h1 hpos hsz hlim hge hcm (by
       rw [List.length_append,hnl,zeroCells_len,hzs,←Nat.add_mul]; congr 1; omega)
   have harr:(news++(Builtin.zeroCells z.cells (grownCap w rows.length 0 e - rows.length)).toList).toArray=news.toArray++Builtin.zeroCells z.cells (grownCap w rows.length 0 e - rows.length):=by
     apply Array.ext'; simp
   rw [harr] at m1 m2 m3
   exact ⟨_,_,L2,F2,run,m1,m2,ed.trans m3⟩
theorem ok_appb {t t2 ty e:TypeId} {i:TypeInfo} {z:Value} {x y:Operand} {x' y':Opd} (H:HRel base w0 w L N F [] h) (hs:SRel w L N s a.tmps) (hx:∃ t,compX P t x=some x') (hy:∃ t,compX P t y=some y')
   (ht:P.underlying t=some (.slice e)) (ht2:∃ e',P.underlying t2=some (.slice e')) (hi:P.info? e=some i) (hz:i.zero=some z) (hzs:z.cells.size=i.size) (hpos:0<i.size) (hby:0<i.bytes)
   (hK:aop P s h N K (.appb i.bytes i.size x' y')):Gives P (do pure (.value (←Builtin.append_ #[t,t2] ty #[a.eval x,a.eval y]))) w (Post base w0 w L N K):=by
 obtain ⟨t1,hx⟩:=hx
 obtain ⟨t3,hy⟩:=hy
 have hv:=compX_sound hx hs
 have hu:=compX_sound hy hs
 have hLIM:LIM=140737488355328:=rfl
 simp only [aop] at hK
 split at hK
 · rename_i sz0 hev
   rw [hev] at hv
   simp only [VR] at hv
   unfold onO at hK
   split at hK
   · rename_i p hp
     obtain ⟨sz,rows⟩:=p
     obtain ⟨h1,h2,hK⟩:=hK
     simp only at h1 h2 hK
     subst h1
     obtain ⟨A,c,news,g2,g3,g4,g5,g6,g7⟩:=srcRowsB_sound H hu hp
     obtain ⟨v,w',L',F'',r1,r2,r3,r4⟩:=app_newB (P:=P) (ty:=ty) ht ht2 hi hz hzs hpos hby H g3 g4 g6 g7 h2
     refine .of_value (v:=v) (w':=w') ?_ ⟨_,_,_,_,_,r2,r4,r3,hK⟩
     rw [hv.1,g2,Sem.run_bind,r1]; rfl
   · exact hK.elim
 · rename_i id off len hev
   rw [hev] at hv
   obtain ⟨rfl,hK⟩:=hK
   unfold onO at hK
   split at hK
   · rename_i p hp
     split at hK
     · rename_i B hB
       obtain ⟨hbox,hBsz,hlen,h1,h2,hK⟩:=hK
       obtain ⟨sz,rows⟩:=p
       simp only at h1 h2 hK
       subst h1
       obtain ⟨A,c,news,g2,g3,g4,g5,g6,g7⟩:=srcRowsB_sound H hu hp
       have hnl:=VRr_length g6 g3
       have hf:=src_of (P:=P) (size:=i.size) (c:=c) hnl g7
       have hlim:len+rows.length≤LIM:=Nat.le_trans (Nat.le_mul_of_pos_right _ hby) h2
       cases hl:L id with
       | none=>rw [H.mod id hl] at hB; cases hB
       | some l=>
         have hid:=H.lt id l hl
         simp only [VR] at hv
         have hpp:=hv.1.2.2 l hl
         have hbr:=H.blk id B l hB hl
         have hidN:N≠id:=by omega
         cases l with
         | none=>
           obtain ⟨hrows,hFe⟩:=hbr
           obtain ⟨_,_,rfl,he⟩:=hpp
           have Hk:=H.kill id (E':=[]) (by simp) (by simp)
           have ek:=Ext.kill w L N id
           obtain ⟨v,w',L',F'',r1,r2,r3,r4⟩:=app_newB (P:=P) (ty:=ty) (t2:=t2) ht ht2 hi hz hzs hpos hby Hk (VRr_ext ek _ _ _ g3) g4 g6 g7 (by rw [Nat.zero_add] at h2; exact h2)
           refine .of_value (v:=v) (w':=w') ?_ ⟨_,_,_,_,_,r2,ek.trans r4,r3,?_⟩
           · rw [he,g2,Sem.run_bind,r1]; rfl
           · simpa using hK
         | «at» b sz cap=>
           obtain ⟨_,A',he,hA,hcap⟩:=hpp
           obtain ⟨rfl,h0,cur,u,vals,rest,q1,q2,q3,q4,q5,q6,q7,q8,q9,q10⟩:=hbr.cells hcap.2
           have hFn:=h0 hbox
           have hA:=hA (.inr rfl)
           subst hA
           simp only [Nat.zero_mul,Nat.sub_zero,Nat.zero_add] at he hcap
           simp only [hbox,if_true] at q10
           rw [hFn] at q10
           obtain ⟨v1,v2,S1,S2,rfl,hFS,k1,k2⟩:=VRr_take len q10
           obtain ⟨rfl,rfl⟩:=List.append_eq_nil_iff.1 hFS.symm
           have hv1:v1.length=len*B.sz:=by
             rw [VRr_length (fun r hr=>q8 r (List.mem_of_mem_take hr)) k1,List.length_take,Nat.min_eq_left (by omega)]
           have hrowsl:(B.rows.take len++rows).length=len+rows.length:=by rw [List.length_append,List.length_take,Nat.min_eq_left hlen]
           have hrsz:∀ r∈B.rows.take len++rows,r.length=i.size:=by
             intro r hr
             rcases List.mem_append.1 hr with hr | hr
             · rw [q8 r (List.mem_of_mem_take hr),hBsz]
             · exact g6 r hr
           have hone:one (v1++news):=by
             intro v hv'
             rcases List.mem_append.1 hv' with hv' | hv'
             · exact q9 v (by simp [hv'])
             · exact g4 v hv'
           by_cases hroom:len+rows.length≤cap
           · have hcsz:cur.size=cap*i.size:=by rw [q3,hBsz]
             have hfit:len*i.size+news.length≤cur.size:=by rw [hnl,hcsz,←Nat.add_mul]; exact Nat.mul_le_mul_right _ hroom
             have run:=run_app_room (P:=P) (w:=w) (ty:=ty) (t2:=t2) (u:=u) ht ht2 hi (y := .slice A rows.length c) ⟨A,c,rfl⟩ hf g4 q1 hroom hfit
             have htake:cur.toList.take (len*i.size)++news++cur.toList.drop (len*i.size+news.length)=(v1++news)++cur.toList.drop (len*i.size+news.length):=by
               congr 2
               rw [q2,←hBsz,←hv1,List.append_assoc,List.take_left]
             rw [htake] at run
             obtain ⟨m1,m2⟩:=H.chg (w':=w.setRow b ((v1++news)++cur.toList.drop (len*i.size+news.length)).toArray) (N':=N+1) (E':=[]) N id ⟨true,i.size,B.rows.take len++rows⟩ (.at b i.size cap) [] (by omega) (by omega) (.inr (Nat.le_refl _)) (fun hlt=>absurd hlt (Nat.lt_irrefl _))
               ⟨rfl,rfl,rfl,by simp,fun k hk=>setRow_other w b k _ (fun he=>by have:=H.lo b ⟨id,_,cap,hl⟩; omega)⟩
               (fun b' hb' hne=>setRow_other w b b' _ (fun he=>hne _ cap (he ▸ hl)))
               (fun b' sz' cap' he=>by cases he; exact ⟨H.lo b ⟨id,_,cap,hl⟩,by rw [size_setRow]; exact lt_of_heap q1,.inl ⟨_,cap,hl⟩⟩)
               (fun L' e hL'=>BRel.of ⟨rfl,fun _=>rfl,_,u,v1++news,cur.toList.drop (len*i.size+news.length),setRow_heap w b cur _ u (0,0) q1,by simp,by
                   have:((v1++news)++cur.toList.drop (len*i.size+news.length)).length=cur.size:=by
                     simp only [List.length_append,List.length_drop,hv1,hBsz,Array.length_toList]; omega
                   rw [List.size_toArray,this,hcsz],hpos,q5,by rw [hrowsl]; exact hroom,by rw [hrowsl]; exact hlim,hrsz,hone,by
                   simp only [if_true]
                   rw [VRr_iff,List.flatten_append,VRl_append]
                   exact ⟨v1,news,[],[],rfl,rfl,VRr_iff.1 (VRr_ext e _ _ _ k1),VRr_iff.1 (VRr_ext e _ _ _ g3)⟩⟩)
               (by simp) (by simp)
             refine .of_value (v := .slice (some ⟨b,0,Option.none⟩) (len+rows.length) cap) (w':=_) ?_ ⟨_,_,_,_,_,m1,m2,?_,hK⟩
             · rw [he,g2,Sem.run_bind,run]; rfl
             · simp only [VR]
               refine ⟨⟨by omega,rfl,?_⟩,trivial⟩
               intro l hl'; rw [upd_same] at hl'; cases hl'
               exact ⟨hlim,some ⟨b,0,Option.none⟩,by simp,by simp,by omega⟩
           · have hcells:cellsAt w b 0 v1:=by
               have:=cells_of_row (w:=w) (pre:=[]) (vals:=v1) (rest:=v2++rest) q1 (by rw [q2]; simp)
               simpa using this
             have run:=run_app_grow (P:=P) (w:=w) (ty:=ty) (t2:=t2) ht ht2 hi hz (y := .slice A rows.length c) ⟨A,c,rfl⟩ hf (b:=⟨b,0,Option.none⟩) (sLen:=len) (sCap:=cap) (olds:=v1) (by rw [hv1,hBsz]) (fun j v hj=>by rw [addr_add]; exact hcells j v hj) (by omega) h2 hlim
             have hge:=grownCap_ge w (len+rows.length) cap e
             have hcm:=grownCap_le_maxLen w (len+rows.length) cap e (by simp only [maxLen]; omega)
             have Hk:=H.kill id (E':=[]) (by simp) (by simp)
             have ek:=Ext.kill w L N id
             obtain ⟨Hd,ed⟩:=Hk.drew
             obtain ⟨L2,F2,m1,m2,m3⟩:=Hd.newRowsB (t:=e) (rows:=B.rows.take len++rows) (sz:=i.size) (cap:=grownCap w (len+rows.length) cap e) (vals:=v1++news) (rest:=(Builtin.zeroCells z.cells (grownCap w (len+rows.length) cap e - (len+rows.length))).toList)
               (by
                 rw [VRr_iff,List.flatten_append,VRl_append]
                 exact ⟨v1,news,[],[],rfl,rfl,VRr_iff.1 (VRr_ext (ek.trans ed) _ _ _ k1),VRr_iff.1 (VRr_ext (ek.trans ed) _ _ _ g3)⟩) hone hpos hrsz (by rw [hrowsl]; exact hlim) (by rw [hrowsl]; exact hge) hcm (by
                 rw [List.length_append,List.length_append,hv1,hnl,zeroCells_len,hzs,hBsz,←Nat.add_mul,←Nat.add_mul]; congr 1; omega)
             have harr:(v1++news++(Builtin.zeroCells z.cells (grownCap w (len+rows.length) cap e - (len+rows.length))).toList).toArray=v1.toArray++news.toArray++Builtin.zeroCells z.cells (grownCap w (len+rows.length) cap e - (len+rows.length)):=by
               apply Array.ext'; simp
             rw [harr] at m1 m2 m3
             rw [hrowsl] at m2
             refine .of_value (v := .slice (some ⟨w.heap.size,0,Option.none⟩) (len+rows.length) (grownCap w (len+rows.length) cap e)) (w':=_) ?_ ⟨_,_,_,_,_,m1,(ek.trans ed).trans m3,m2,hK⟩
             rw [he,g2,Sem.run_bind,run]; rfl
     · exact hK.elim
   · exact hK.elim
 · exact hK.elim
end
open Go Go.RowKit
def zeroA (P:Program):Nat→TypeId→Option (List AV)
 | 0,_=>Option.none
 | d+1,t=>match P.underlying t with
   | some .bool=>some [.bool false]
   | some (.int k)=>some [.int k 0]
   | some .string=>some [.str []]
   | some (.slice e)=>(P.info? e).map fun i=>[.nil i.size]
   | some (.pointer _)=>some [.nilp]
   | some (.struct fs)=>(fs.toList.mapM fun f=>zeroA P d f.type).map List.flatten
   | some (.func ..)=>some [.undef]
   | some (.map ..)=>some [.undef]
   | _=>Option.none
def zeroV (P:Program) (t:TypeId):Option (Value×AV):=
 match P.info? t with
 | some i=>match i.zero with
   | some v=>match zeroA P 20 t with
     | some z=>match aggB P t with
       | some true=>if matchG (.agg z) v then some (v,.agg z) else Option.none
       | some false=>match z with
         | [a]=>if matchG a v then some (v,a) else Option.none
         | _=>Option.none
       | Option.none=>Option.none
     | Option.none=>Option.none
   | Option.none=>Option.none
 | Option.none=>Option.none
def zeroOf (P:Program) (t:TypeId):Option (TypeInfo×Value×List AV):=
 match P.info? t with
 | some i=>match i.zero with
   | some v=>match zeroA P 20 t with
     | some z=>if matchL z v.cells.toList&&decide (z.length=i.size)&&decide (0<i.size) then some (i,v,z) else Option.none
     | Option.none=>Option.none
   | Option.none=>Option.none
 | Option.none=>Option.none
def hasNil (z:List AV):Bool:=z.any fun a=>match a with | .nil _=>true | _=>false
def compXs (P:Program):List (TypeId×Operand)→Option (List Opd)
 | []=>some []
 | (t,x)::xs=>(compX P t x).bind fun y=>(compXs P xs).map fun ys=>y::ys
def compLow (P:Program):Option Operand→Option (Option Opd)
 | Option.none=>some Option.none
 | some x=>(compX P 0 x).map some
def compOp (bx:Bool) (P:Program) (o:Oper):Option AOp:=
 match o.op with
 | .move x=>(compX P o.type x).map .mv
 | .assign x=>(compX P o.type x).map .mv
 | .pick c a b=>(compX P o.type c).bind fun c=>(compX P o.type a).bind fun a=>(compX P o.type b).map fun b => .pick c a b
 | .alloc t=>(zeroOf P t).map fun z => .box z.2.2
 | .box t x=>(compX P t x).map .boxv
 | .build t parts=>match P.underlying t with
   | some (.struct fs)=>(zeroOf P t).bind fun z=>if fs.toList.all (fun f=>(P.info? f.type).isSome) then (parts.toList.mapM (compPart P fs)).map fun ps => .build z.2.2 ps else Option.none
   | _=>Option.none
 | .buildSlice t len parts=>match P.underlying t with
   | some (.slice e)=>(zeroOf P e).bind fun z=>if len=parts.size∧parts.size*z.1.size≤2 ^ 24∧z.2.1.cells.size=z.1.size∧parts.toList.map (·.1)=List.range parts.size then
       (parts.toList.mapM (fun p=>compX P e p.2)).map fun ps=>if bx&&hasNil z.2.2 then .bslb z.1.size ps else .bsl z.1.size ps else Option.none
   | _=>Option.none
 | .load t x=>match aggB P t,P.info? t with
   | some g,some i=>(compX P 0 x).map fun y => .ld g i.size y
   | _,_=>Option.none
 | .store t x y=>match P.info? t with
   | some i=>(compX P 0 x).bind fun a=>(compX P t y).map fun b => .st i.size a b
   | _=>Option.none
 | .nilCheck x=>(compX P 0 x).map .nchk
 | .binOp op t x y u=>(compX P t x).bind fun a=>(compX P u y).bind fun b=>match P.underlying t with
   | some .bool=>if op = .eql then some (.beq false a b) else if op = .neq then some (.beq true a b) else Option.none
   | some (.slice _)=>match b with
     | .k (.nil _)=>if op = .eql then some (.inil false a) else if op = .neq then some (.inil true a) else Option.none
     | _=>Option.none
   | some (.struct fs)=>if P.stoodInHeld t=false∧P.eqGuardType P.depth t=false then (kindsOf P 0 fs.toList).bind fun ks=>if op = .eql then some (.aeq false ks a b) else if op = .neq then some (.aeq true ks a b) else Option.none else Option.none
   | _=>some (.bin op a b)
 | .unOp op t x=>(compX P t x).map fun y => .un op y
 | .convert src dst x=>match P.underlying src,P.underlying dst with
   | some (.slice e),some .string=>match P.underlying e with
     | some (.int .u8)=>(compX P src x).map .cvb
     | _=>Option.none
   | some _,some (.int k)=>(compX P src x).map fun y => .cvi k y
   | _,_=>Option.none
 | .makeFunc f fi ca=>(compXs P (fi.toList.map fun x=>(0,x))).bind fun a=>(compXs P (ca.toList.map fun x=>(0,x))).map fun b => .mkf f a b
 | .makeSlice t l c=>match P.underlying t with
   | some (.slice e)=>(zeroOf P e).bind fun z=>if 0<z.1.bytes then (compX P 0 l).bind fun a=>(compX P 0 c).map fun b => .mks z.1.bytes z.2.2 a b else Option.none
   | _=>Option.none
 | .slice t x lo hi mx=>if mx.isSome then Option.none else (compX P t x).bind fun a=>(compLow P lo).bind fun l=>(compLow P hi).bind fun r=>match P.underlying t with
   | some .string=>some (.slc true 0 a l r)
   | some (.slice e)=>(P.info? e).map fun i => .slc false i.size a l r
   | _=>Option.none
 | .fieldAddr t x f=>match P.underlying t with
   | some (.struct fs)=>fs[f]?.bind fun fd=>(P.info? fd.type).bind fun i=>if i.size≠0 then (compX P 0 x).map fun y => .fld fd.offset y else Option.none
   | _=>Option.none
 | .field t x f=>match P.underlying t with
   | some (.struct fs)=>fs[f]?.bind fun fd=>(aggB P fd.type).bind fun g=>(P.info? fd.type).bind fun i=>(compX P 0 x).map fun y => .prt g fd.offset i.size y
   | _=>Option.none
 | .indexAddr t x y=>match P.underlying t with
   | some (.slice e)=>(P.info? e).bind fun i=>(compX P t x).bind fun a=>(compX P 0 y).map fun b => .ixa i.size a b
   | _=>Option.none
 | .index t x y=>match P.underlying t with
   | some .string=>(compX P t x).bind fun a=>(compX P 0 y).map fun b => .ixs a b
   | _=>Option.none
 | .extract x j=>(compX P 0 x).map fun y => .ext y j
 | .call c=>match c.callee with
   | .value f=>(compX P 0 f).bind fun g=>(compXs P (c.argTypes.toList.zip c.args.toList)).bind fun xs=>if c.argTypes.size=c.args.size then some (.call g xs) else Option.none
   | .builtin .len=>match c.argTypes.toList,c.args.toList with
     | [t],[x]=>match P.underlying t with
       | some .string=>(compX P t x).map fun y => .len true y
       | some (.slice _)=>(compX P t x).map fun y => .len false y
       | some (.map _ _)=>(compX P t x).map fun y => .mlen y
       | _=>Option.none
     | _,_=>Option.none
   | .builtin .append=>match c.argTypes.toList,c.args.toList with
     | [t,u],[x,y]=>match P.underlying t,P.underlying u with
       | some (.slice e),some (.slice _)=>(zeroOf P e).bind fun z=>if 0<z.1.bytes∧z.2.1.cells.size=z.1.size then (compX P t x).bind fun a=>(compX P u y).map fun b=>if bx&&hasNil z.2.2 then .appb z.1.bytes z.1.size a b else .app z.1.bytes z.1.size a b else Option.none
       | _,_=>Option.none
     | _,_=>Option.none
   | .builtin .max=>match c.args.toList with
     | [x,y]=>(compX P o.type x).bind fun a=>(compX P o.type y).map fun b => .mnx true a b
     | _=>Option.none
   | .builtin .min=>match c.args.toList with
     | [x,y]=>(compX P o.type x).bind fun a=>(compX P o.type y).map fun b => .mnx false a b
     | _=>Option.none
   | _=>Option.none
 | .makeMap _ Option.none=>some .mmk
 | .lookup t x k ok=>if ok then Option.none else match P.underlying t with
   | some (.map kt e)=>match P.underlying kt with
     | some .string=>(zeroV P e).bind fun z=>(compX P 0 x).bind fun a=>(compX P kt k).map fun b => .mget z.2 a b
     | _=>Option.none
   | _=>Option.none
 | .mapUpdate t x k v | .insert t x k v=>match P.underlying t with
   | some (.map kt e)=>match P.underlying kt with
     | some .string=>(compX P 0 x).bind fun a=>(compX P kt k).bind fun b=>(compX P e v).map fun c => .mput a b c
     | _=>Option.none
   | _=>Option.none
 | _=>Option.none
section
variable {P:Program} {base:Nat} {w0 w:World} {L:Nat→Option Loc} {N:Nat} {F:Nat→List Nat} {h:Heap} {s:Nat→AV} {a:Act} {K:AV→Heap→Nat→Prop}
theorem zeroOf_some {t:TypeId} {i:TypeInfo} {v:Value} {z:List AV} (h:zeroOf P t=some (i,v,z)) :
   P.info? t=some i∧i.zero=some v∧matchL z v.cells.toList=true∧z.length=i.size∧0<i.size:=by
 unfold zeroOf at h
 split at h
 · split at h
   · split at h
     · split at h
       · rename_i hc
         simp only [Option.some.injEq,Prod.mk.injEq] at h
         obtain ⟨rfl,rfl,rfl⟩:=h
         simp only [Bool.and_eq_true,decide_eq_true_eq] at hc
         exact ⟨by assumption,by assumption,hc.1.1,hc.1.2,hc.2⟩
       · cases h
     · cases h
   · cases h
 · cases h
theorem zeroV_some {t:TypeId} {v:Value} {z:AV} (h:zeroV P t=some (v,z)):∃ i,P.info? t=some i∧i.zero=some v∧matchG z v=true:=by
 unfold zeroV at h
 split at h
 · rename_i i hi
   split at h
   · rename_i v' hv
     split at h
     · split at h
       · split at h
         · simp only [Option.some.injEq,Prod.mk.injEq] at h
           obtain ⟨rfl,rfl⟩:=h
           exact ⟨i,hi,hv,by assumption⟩
         · cases h
       · split at h
         · split at h
           · simp only [Option.some.injEq,Prod.mk.injEq] at h
             obtain ⟨rfl,rfl⟩:=h
             exact ⟨i,hi,hv,by assumption⟩
           · cases h
         · cases h
       · cases h
     · cases h
   · cases h
 · cases h
theorem compXs_sound:∀ {xs:List (TypeId×Operand)} {ys:List Opd},compXs P xs=some ys→SRel w L N s a.tmps→VRl w L N (ys.map (ev s)) (xs.map fun p=>a.eval p.2) []
 | [],ys,h,_=>by simp only [compXs,Option.some.injEq] at h; subst h; exact ⟨rfl,rfl⟩
 | (t,x)::xs,ys,h,hs=>by
   simp only [compXs,Option.bind_eq_some_iff,Option.map_eq_some_iff] at h
   obtain ⟨y,hy,ys',hys,rfl⟩:=h
   exact VRl_nil_cons.2 ⟨_,_,rfl,compX_sound hy hs,compXs_sound hys hs⟩
def LowOK (P:Program) (lo:Option Operand) (lo':Option Opd):Prop:=match lo,lo' with | some x,some x'=>∃ t,compX P t x=some x' | Option.none,Option.none=>True | _,_=>False
theorem compLow_some {lo:Option Operand} {lo':Option Opd} (h:compLow P lo=some lo'):LowOK P lo lo':=by
 unfold compLow at h
 split at h
 · cases h; trivial
 · simp only [Option.map_eq_some_iff] at h; obtain ⟨y,hy,rfl⟩:=h; exact ⟨0,hy⟩
theorem compOp_sound {bx:Bool} {o:Oper} {ao:AOp} (hc:compOp bx P o=some ao) (H:HRel base w0 w L N F [] h) (hs:SRel w L N s a.tmps) (hK:aop P s h N K ao):Gives P (execOp a.eval o) w (Post base w0 w L N K):=by
 unfold compOp at hc
 unfold execOp
 split at hc <;> rename_i heq <;> simp only [heq]
 · simp only [Option.map_eq_some_iff] at hc; obtain ⟨y,hy,rfl⟩:=hc; exact ok_mv H hs hy rfl hK
 · simp only [Option.map_eq_some_iff] at hc; obtain ⟨y,hy,rfl⟩:=hc; exact ok_mv H hs hy rfl hK
 · simp only [Option.map_eq_some_iff,Option.bind_eq_some_iff] at hc; obtain ⟨c,hc1,x,hx,y,hy,rfl⟩:=hc; exact ok_pick H hs hc1 hx hy hK
 · simp only [Option.map_eq_some_iff] at hc; obtain ⟨⟨i,v,z⟩,hz,rfl⟩:=hc
   obtain ⟨h1,h2,h3,h4,h5⟩:=zeroOf_some hz
   exact ok_box H h1 h2 h3 (by omega) hK
 · simp only [Option.map_eq_some_iff] at hc; obtain ⟨y,hy,rfl⟩:=hc; exact ok_boxv H hs hy hK
 · split at hc
   · rename_i fs hfs
     simp only [Option.bind_eq_some_iff] at hc
     obtain ⟨⟨i,v,z⟩,hz,hc⟩:=hc
     split at hc
     · rename_i hall
       simp only [Option.map_eq_some_iff] at hc
       obtain ⟨ps,hps,rfl⟩:=hc
       obtain ⟨h1,h2,h3,h4,h5⟩:=zeroOf_some hz
       exact ok_build H hs h1 h2 h3 hfs hall hps hK
     · cases hc
   · cases hc
 · split at hc
   · rename_i e he
     simp only [Option.bind_eq_some_iff] at hc
     obtain ⟨⟨i,v,z⟩,hz,hc⟩:=hc
     split at hc
     · rename_i hall
       simp only [Option.map_eq_some_iff] at hc
       obtain ⟨ps,hps,rfl⟩:=hc
       obtain ⟨h1,h2,h3,h4,h5⟩:=zeroOf_some hz
       obtain ⟨rfl,g2,g3,g4⟩:=hall
       split at hK
       · exact ok_bslb H hs he h1 h2 h5 g2 g3 g4 hps hK
       · exact ok_bsl H hs he h1 h2 h5 g2 g3 g4 hps hK
     · cases hc
   · cases hc
 · split at hc
   · rename_i g i hg hi
     simp only [Option.map_eq_some_iff] at hc
     obtain ⟨y,hy,rfl⟩:=hc
     exact ok_ld H hs ⟨_,hy⟩ hg hi rfl hK
   · cases hc
 · split at hc
   · rename_i i hi
     simp only [Option.map_eq_some_iff,Option.bind_eq_some_iff] at hc
     obtain ⟨x,hx,y,hy,rfl⟩:=hc
     exact ok_st H hs ⟨_,hx⟩ hy hi hK
   · cases hc
 · simp only [Option.map_eq_some_iff] at hc; obtain ⟨y,hy,rfl⟩:=hc
   exact ok_nchk H hs ⟨_,hy⟩ hK (fun b o he=>by simp [he])
 · simp only [Option.bind_eq_some_iff] at hc
   obtain ⟨x,hx,y,hy,hc⟩:=hc
   split at hc
   · rename_i hb
     split at hc
     · rename_i hop; cases hc; exact ok_beq H hs hx hy hb (by simpa using hop) hK
     · split at hc
       · rename_i hop; cases hc; exact ok_beq H hs hx hy hb (by simpa using hop) hK
       · cases hc
   · rename_i hb
     split at hc
     · split at hc
       · rename_i hop; cases hc; exact ok_inil H hs hx hy hb (by simpa using hop) hK
       · split at hc
         · rename_i hop; cases hc; exact ok_inil H hs hx hy hb (by simpa using hop) hK
         · cases hc
     · cases hc
   · rename_i hb
     split at hc
     · rename_i hcond
       simp only [Option.bind_eq_some_iff] at hc
       obtain ⟨ks,hks,hc⟩:=hc
       split at hc
       · rename_i hop; cases hc; exact ok_aeq H hs hx hy hb hks hcond.1 hcond.2 (by simpa using hop) hK
       · split at hc
         · rename_i hop; cases hc; exact ok_aeq H hs hx hy hb hks hcond.1 hcond.2 (by simpa using hop) hK
         · cases hc
     · cases hc
   · cases hc; exact ok_bin H hs hx hy hK
 · simp only [Option.map_eq_some_iff] at hc; obtain ⟨y,hy,rfl⟩:=hc; exact ok_un H hs hy hK
 · split at hc
   · rename_i e he hd
     split at hc
     · rename_i hu
       simp only [Option.map_eq_some_iff] at hc; obtain ⟨y,hy,rfl⟩:=hc
       exact ok_cvb H hs hy he hd hu hK
     · cases hc
   · simp only [Option.map_eq_some_iff] at hc; obtain ⟨y,hy,rfl⟩:=hc
     exact ok_cvi H hs hy ⟨_,by assumption⟩ (by assumption) hK
   · cases hc
 · simp only [Option.map_eq_some_iff,Option.bind_eq_some_iff] at hc
   obtain ⟨x,hx,y,hy,rfl⟩:=hc
   refine ok_mkf H ?_ ?_ hK
   · have:=compXs_sound (w:=w) (L:=L) (N:=N) hx hs; simpa [List.map_map,Function.comp_def] using this
   · have:=compXs_sound (w:=w) (L:=L) (N:=N) hy hs; simpa [List.map_map,Function.comp_def] using this
 · split at hc
   · rename_i e he
     simp only [Option.bind_eq_some_iff] at hc
     obtain ⟨⟨i,v,z⟩,hz,hc⟩:=hc
     split at hc
     · rename_i hb
       simp only [Option.map_eq_some_iff,Option.bind_eq_some_iff] at hc
       obtain ⟨x,hx,y,hy,rfl⟩:=hc
       obtain ⟨h1,h2,h3,h4,h5⟩:=zeroOf_some hz
       exact ok_mks H hs ⟨_,hx⟩ ⟨_,hy⟩ he h1 h2 h3 h4 h5 hb hK
     · cases hc
   · cases hc
 · rename_i t x lo hi mx
   cases mx with
   | some m=>simp at hc
   | none=>
     simp only [Option.isSome_none,Bool.false_eq_true,if_false,Option.bind_eq_some_iff] at hc
     obtain ⟨y,hy,l,hl,r,hr,hc⟩:=hc
     split at hc
     · rename_i ht; cases hc; exact ok_slcs H hs ⟨_,hy⟩ (compLow_some hl) (compLow_some hr) ht hK
     · rename_i e ht
       simp only [Option.map_eq_some_iff] at hc
       obtain ⟨i,hi,rfl⟩:=hc
       exact ok_slcl H hs ⟨_,hy⟩ (compLow_some hl) (compLow_some hr) ht hi hK
     · cases hc
 · split at hc
   · rename_i fs ht
     simp only [Option.bind_eq_some_iff] at hc
     obtain ⟨fd,hf,i,hi,hc⟩:=hc
     split at hc
     · rename_i hsz
       simp only [Option.map_eq_some_iff] at hc
       obtain ⟨y,hy,rfl⟩:=hc
       exact ok_fld H hs ⟨_,hy⟩ ht hf hi hsz hK
     · cases hc
   · cases hc
 · split at hc
   · rename_i fs ht
     simp only [Option.bind_eq_some_iff,Option.map_eq_some_iff] at hc
     obtain ⟨fd,hf,g,hg,i,hi,y,hy,rfl⟩:=hc
     exact ok_prt H hs ⟨_,hy⟩ ht hf hg hi hK
   · cases hc
 · split at hc
   · rename_i e ht
     simp only [Option.bind_eq_some_iff,Option.map_eq_some_iff] at hc
     obtain ⟨i,hi,x,hx,y,hy,rfl⟩:=hc
     exact ok_ixa H hs ⟨_,hx⟩ ⟨_,hy⟩ ht hi hK
   · cases hc
 · split at hc
   · rename_i ht
     simp only [Option.bind_eq_some_iff,Option.map_eq_some_iff] at hc
     obtain ⟨x,hx,y,hy,rfl⟩:=hc
     exact ok_ixs H hs ⟨_,hx⟩ ⟨_,hy⟩ ht hK
   · cases hc
 · simp only [Option.map_eq_some_iff] at hc
   obtain ⟨y,hy,rfl⟩:=hc
   exact ok_ext H hs ⟨_,hy⟩ hK
 · rename_i c
   split at hc
   · rename_i f hf
     simp only [Option.bind_eq_some_iff] at hc
     obtain ⟨g,hg,xs,hxs,hc⟩:=hc
     split at hc
     · rename_i hsz
       cases hc
       have:=compXs_sound (w:=w) (L:=L) (N:=N) hxs hs
       refine ok_call H hs ⟨_,hg⟩ hf ?_ hK
       have e:(c.argTypes.toList.zip c.args.toList).map (fun p=>a.eval p.2)=(c.args.map a.eval).toList:=by
         rw [show (fun p:TypeId×Operand=>a.eval p.2)=a.eval∘(·.2) from rfl,←List.map_map,List.map_snd_zip (by simp [hsz])]; simp
       rw [←e]; exact this
     · cases hc
   · rename_i hcal
     obtain ⟨cal,args,tys⟩:=c
     simp only at hcal hc
     subst hcal
     split at hc
     · rename_i t x hts has
       have hts:tys = #[t]:=by apply Array.ext'; exact hts
       have has:args = #[x]:=by apply Array.ext'; exact has
       subst hts has
       split at hc
       · rename_i ht
         simp only [Option.map_eq_some_iff] at hc
         obtain ⟨y,hy,rfl⟩:=hc
         have:=ok_lens (ty:=o.type) H hs ⟨_,hy⟩ ht hK
         simpa [resolve,invoke,builtin] using this
       · rename_i e ht
         simp only [Option.map_eq_some_iff] at hc
         obtain ⟨y,hy,rfl⟩:=hc
         have:=ok_lenl (ty:=o.type) H hs ⟨_,hy⟩ ht hK
         simpa [resolve,invoke,builtin] using this
       · rename_i kt e ht
         simp only [Option.map_eq_some_iff] at hc
         obtain ⟨y,hy,rfl⟩:=hc
         have:=ok_mlen (ty:=o.type) H hs ⟨_,hy⟩ ht hK
         simpa [resolve,invoke,builtin] using this
       · cases hc
     · cases hc
   · rename_i hcal
     obtain ⟨cal,args,tys⟩:=c
     simp only at hcal hc
     subst hcal
     split at hc
     · rename_i t u x y hts has
       have hts:tys = #[t,u]:=by apply Array.ext'; exact hts
       have has:args = #[x,y]:=by apply Array.ext'; exact has
       subst hts has
       split at hc
       · rename_i e e' ht hu
         simp only [Option.bind_eq_some_iff] at hc
         obtain ⟨⟨i,v,z⟩,hz,hc⟩:=hc
         split at hc
         · rename_i hb
           simp only [Option.map_eq_some_iff,Option.bind_eq_some_iff] at hc
           obtain ⟨x',hx,y',hy,rfl⟩:=hc
           obtain ⟨h1,h2,h3,h4,h5⟩:=zeroOf_some hz
           split at hK
           · have:=ok_appb (ty:=o.type) H hs ⟨_,hx⟩ ⟨_,hy⟩ ht ⟨_,hu⟩ h1 h2 hb.2 h5 hb.1 hK
             simpa [resolve,invoke,builtin] using this
           · have:=ok_app (ty:=o.type) H hs ⟨_,hx⟩ ⟨_,hy⟩ ht ⟨_,hu⟩ h1 h2 hb.2 h5 hb.1 hK
             simpa [resolve,invoke,builtin] using this
         · cases hc
       · cases hc
     · cases hc
   · rename_i hcal
     obtain ⟨cal,args,tys⟩:=c
     simp only at hcal hc
     subst hcal
     split at hc
     · rename_i x y has
       have has:args = #[x,y]:=by apply Array.ext'; exact has
       subst has
       simp only [Option.map_eq_some_iff,Option.bind_eq_some_iff] at hc
       obtain ⟨x',hx,y',hy,rfl⟩:=hc
       have:=ok_mnx (ts:=tys) (ty:=o.type) (b:=true) H hs hx hy rfl hK
       simpa [resolve,invoke,builtin] using this
     · cases hc
   · rename_i hcal
     obtain ⟨cal,args,tys⟩:=c
     simp only at hcal hc
     subst hcal
     split at hc
     · rename_i x y has
       have has:args = #[x,y]:=by apply Array.ext'; exact has
       subst has
       simp only [Option.map_eq_some_iff,Option.bind_eq_some_iff] at hc
       obtain ⟨x',hx,y',hy,rfl⟩:=hc
       have:=ok_mnx (ts:=tys) (ty:=o.type) (b:=false) H hs hx hy rfl hK
       simpa [resolve,invoke,builtin] using this
     · cases hc
   · cases hc
 · cases hc
   have:=ok_mmk (t := ‹TypeId›) H hK
   simpa using this
 · split at hc
   · cases hc
   · rename_i hok
     split at hc
     · rename_i kt e ht
       split at hc
       · rename_i hkt
         simp only [Option.map_eq_some_iff,Option.bind_eq_some_iff] at hc
         obtain ⟨⟨v,z⟩,hz,x,hx,y,hy,rfl⟩:=hc
         obtain ⟨i,h1,h2,h3⟩:=zeroV_some hz
         have hok : ‹Bool› = false:=by simpa using hok
         subst hok
         exact ok_mget H hs ⟨_,hx⟩ ⟨_,hy⟩ ht hkt h1 h2 h3 hK
       · cases hc
     · cases hc
 · split at hc
   · rename_i kt e ht
     split at hc
     · rename_i hkt
       simp only [Option.map_eq_some_iff,Option.bind_eq_some_iff] at hc
       obtain ⟨x,hx,y,hy,z,hz,rfl⟩:=hc
       exact ok_mput H hs ⟨_,hx⟩ ⟨_,hy⟩ ⟨_,hz⟩ ht hkt hK
     · cases hc
   · cases hc
 · split at hc
   · rename_i kt e ht
     split at hc
     · rename_i hkt
       simp only [Option.map_eq_some_iff,Option.bind_eq_some_iff] at hc
       obtain ⟨x,hx,y,hy,z,hz,rfl⟩:=hc
       exact ok_mput H hs ⟨_,hx⟩ ⟨_,hy⟩ ⟨_,hz⟩ ht hkt hK
     · cases hc
   · cases hc
 · cases hc
end
end Go.Proofs.Ytoclolkigjbcgaa
