/- The program's ModelOf: the heap of its loops, its two closures. -/
import Derived.Test.YtilcageplifbgaaGreatKQ1
namespace Go.Proofs.YtilcageplifbgaaGreat
set_option linter.all false
open Go Go.RowKit Go.Proofs
def a99:AFn:=
⟨16,[(.c 5 true 2)],(.seq
 (.reg [⟨some 5,(.box [(.int .i64 0),(.nil 1)]),no⟩]) (.seq
 (.reg [⟨some 7,(.ld false 1 (.t 1)),no⟩,⟨some 8,(.ld false 1 (.t 2)),no⟩,⟨some 9,(.call (.k (.fn (.func 65) [] [])) [(.t 7),(.t 8)]),no⟩,⟨some 6,(.box [(.int .i64 0),(.nil 1)]),no⟩,⟨no,(.st 2 (.t 6) (.t 9)),no⟩]) (.seq
 (.reg [⟨some 10,(.ld false 1 (.t 3)),no⟩,⟨some 11,(.mv (.t 0)),no⟩,⟨some 12,(.ld true 2 (.t 6)),no⟩,⟨no,(.mput (.t 10) (.t 11) (.t 12)),no⟩]) (.seq
 (.reg [⟨some 13,(.ld false 1 (.t 1)),no⟩,⟨some 14,(.bin .add (.t 13) (.k (.int .i64 1))),no⟩,⟨no,(.st 1 (.t 1) (.t 14)),no⟩]) (.seq
 (.reg [⟨some 15,(.ld true 2 (.t 6)),no⟩,⟨no,(.st 2 (.t 5) (.t 15)),no⟩]) .ret)))))⟩
theorem a99_ok:compFn Tryz.prog Tryz.f99=some a99:=by kernel_rfl
def a100:AFn:=
⟨12,[],(.seq
 (.reg [⟨some 2,(.boxv (.t 0)),no⟩]) (.draw (.op ⟨some 3,(.fld 0 (.t 1)),no⟩ (.op ⟨some 4,(.fld 1 (.t 3)),no⟩ (.op ⟨some 5,(.ld false 1 (.t 4)),no⟩ (.op ⟨some 6,(.ld true 2 (.t 2)),no⟩ (.op ⟨some 7,(.call (.k (.fn (.func 91) [] [])) [(.t 6)]),no⟩ (.hop ⟨some 8,(.bsl 2 [(.t 7)]),no⟩ [(.ld false 1 (.t 4)),(.fld 1 (.t 3)),(.fld 0 (.t 1))] (.hop ⟨some 9,(.app 32 2 (.t 5) (.t 8)),no⟩ [] (.op ⟨some 10,(.fld 0 (.t 1)),no⟩ (.op ⟨some 11,(.fld 1 (.t 10)),no⟩ (.hop ⟨no,(.st 1 (.t 11) (.t 9)),no⟩ [] .fin))))))))))))⟩
theorem a100_ok:compFn Tryz.prog Tryz.f100=some a100:=by kernel_rfl
structure Ids where
  m:Nat
  d:Nat
  s:Nat
  x:Nat
def mRow (N:Nat) (vR vP vA:AV):List AV:=[.int .i64 N,vR,vP,vA,.int .i64 0,.nil 1]
def Accs (N:Nat) (I:Ids) (st:MS) (h:Heap) (n:Nat):Prop:=∃ vR vP vA,h I.m=some ⟨true,6,[mRow N vR vP vA]⟩∧AccV I.x 2 (st.rows.map rULin) vR h n∧AccV I.x 2 (st.pars.map rULin) vP h n ∧
  AccV I.x 1 (st.args.map rULinS) vA h n∧(st.args=[]→vA = .nil 1)∧∀ i k j l,vR = .ref i 0 k→vP = .ref j 0 l→i≠j
structure MI (p:DProgram) (r:DRule) (f:DFunction) (N:Nat) (I:Ids) (st:MS) (h:Heap) (n:Nat):Prop where
  hp:h 0=some ⟨true,2,[rAProgram p]⟩
  hz:h 1=some ⟨true,6,[[.int .i64 0,.nil 2,.nil 2,.nil 1,.int .i64 0,.nil 1]]⟩
  hr:h 2=some ⟨true,7,[rARule r]⟩
  h3:h 3=some ⟨false,1,strsR f.Params⟩
  h4:h 4=some ⟨false,2,f.Pre.map rULin⟩
  hf:h 5=some ⟨true,4,[[.str f.Name,.ref 3 0 f.Params.length,.bool f.ListResult,.ref 4 0 f.Pre.length]]⟩
  hn:h 6=some ⟨true,1,[[.int .i64 N]]⟩
  lt:6<I.m∧I.m<I.d∧I.d<I.s∧I.s<I.x∧I.x<n
  hmp:h I.s=some ⟨true,1,[[.mp I.d]]⟩
  hnx:h I.x=some ⟨true,1,[[.int .i64 st.nx]]⟩
  map:MapIs I.d st.E h n
  acc:Accs N I st h n
section
variable {p:DProgram} {r:DRule} {f:DFunction} {N:Nat} {I:Ids} {st st':MS} {h h':Heap} {n n':Nat}
theorem Accs.frame (A:Accs N I st h n) (hm:I.m<n) (hn:n≤n') (hh:∀ id,id<n→h' id=h id):Accs N I st h' n':=by
  obtain ⟨vR,vP,vA,g1,g2,g3,g4,g6,g5⟩:=A
  exact ⟨vR,vP,vA,by rw [hh _ hm,g1],g2.keep hn fun id _ hid _=>hh id hid,g3.keep hn fun id _ hid _=>hh id hid,g4.keep hn fun id _ hid _=>hh id hid,g6,g5⟩
theorem MI.frame (M:MI p r f N I st h n) (hn:n≤n') (hh:∀ id,id<n→h' id=h id):MI p r f N I st h' n':=by
  obtain ⟨l1,l2,l3,l4,l5⟩:=M.lt
  refine ⟨?_,?_,?_,?_,?_,?_,?_,⟨l1,l2,l3,l4,by omega⟩,?_,?_,M.map.keep (by omega) hn hh,M.acc.frame (by omega) hn hh⟩
  · rw [hh 0 (by omega),M.hp]
  · rw [hh 1 (by omega),M.hz]
  · rw [hh 2 (by omega),M.hr]
  · rw [hh 3 (by omega),M.h3]
  · rw [hh 4 (by omega),M.h4]
  · rw [hh 5 (by omega),M.hf]
  · rw [hh 6 (by omega),M.hn]
  · rw [hh I.s (by omega),M.hmp]
  · rw [hh I.x (by omega),M.hnx]
theorem MI.upd_acc (M:MI p r f N I st h n) (hE:st'.E=st.E) (hx:st'.nx=st.nx) (hn:n≤n') (bad:Nat→Prop) (hbad:∀ id,bad id→I.x<id∧∀ l,h id≠some ⟨false,1,intsR l⟩) (hh:∀ id,id<n→id≠I.m→¬bad id→h' id=h id)
    (hacc:Accs N I st' h' n'):MI p r f N I st' h' n':=by
  obtain ⟨l1,l2,l3,l4,l5⟩:=M.lt
  have low:∀ id,id≤I.x→id≠I.m→h' id=h id:=fun id hid hne=>hh id (by omega) hne fun hb=>by have:=(hbad id hb).1; omega
  refine ⟨?_,?_,?_,?_,?_,?_,?_,⟨l1,l2,l3,l4,by omega⟩,?_,?_,?_,hacc⟩
  · rw [low 0 (by omega) (by omega),M.hp]
  · rw [low 1 (by omega) (by omega),M.hz]
  · rw [low 2 (by omega) (by omega),M.hr]
  · rw [low 3 (by omega) (by omega),M.h3]
  · rw [low 4 (by omega) (by omega),M.h4]
  · rw [low 5 (by omega) (by omega),M.hf]
  · rw [low 6 (by omega) (by omega),M.hn]
  · rw [low I.s (by omega) (by omega),M.hmp]
  · rw [low I.x (by omega) (by omega),M.hnx,hx]
  · rw [hE]
    obtain ⟨es,h1,h2,h3⟩:=M.map
    refine ⟨es,h1,by rw [low I.d (by omega) (by omega),h2],fun e he=>⟨by have:=(h3 e he).1; omega,?_⟩⟩
    obtain ⟨k1,k2⟩:=h3 e he
    rw [hh e.q k1 (fun g => ?_) fun hb=>(hbad _ hb).2 _ k2,k2]
    obtain ⟨vR,vP,vA,g1,_⟩:=M.acc
    rw [g,g1] at k2
    simp at k2
theorem MI.upd_map (M:MI p r f N I st h n) {x:Str} {l:DLin} {q:Nat} (hE:st'.E=eset st.E x l) (hR:st'.rows=st.rows) (hP:st'.pars=st.pars) (hA:st'.args=st.args) (hn:n≤n') (hq:q<n') (hqb:h' q=some ⟨false,1,intsR l.Coeffs⟩)
    (hx':h' I.x=some ⟨true,1,[[.int .i64 st'.nx]]⟩)
    (hh:∀ id,id<n→id≠I.d→id≠I.x→h' id=h id) (hm:∀ es,h I.d=some ⟨true,0,es.map Ent.row⟩→h' I.d=some ⟨true,0,(setEnt es x l q).map Ent.row⟩):MI p r f N I st' h' n':=by
  obtain ⟨l1,l2,l3,l4,l5⟩:=M.lt
  refine ⟨?_,?_,?_,?_,?_,?_,?_,⟨l1,l2,l3,l4,by omega⟩,?_,hx',?_,?_⟩
  · rw [hh 0 (by omega) (by omega) (by omega),M.hp]
  · rw [hh 1 (by omega) (by omega) (by omega),M.hz]
  · rw [hh 2 (by omega) (by omega) (by omega),M.hr]
  · rw [hh 3 (by omega) (by omega) (by omega),M.h3]
  · rw [hh 4 (by omega) (by omega) (by omega),M.h4]
  · rw [hh 5 (by omega) (by omega) (by omega),M.hf]
  · rw [hh 6 (by omega) (by omega) (by omega),M.hn]
  · rw [hh I.s (by omega) (by omega) (by omega),M.hmp]
  · obtain ⟨es,h1,h2,h3⟩:=M.map
    refine ⟨setEnt es x l q,by rw [setEnt_E,h1,hE],hm es h2,fun e he => ?_⟩
    rcases setEnt_mem he with he | rfl
    · obtain ⟨k1,k2⟩:=h3 e he
      refine ⟨by omega,?_⟩
      rw [hh e.q k1 (fun g => ?_) (fun g => ?_),k2]
      · rw [g,h2] at k2; simp at k2
      · rw [g,M.hnx] at k2; simp at k2
    · exact ⟨hq,hqb⟩
  · obtain ⟨vR,vP,vA,g1,g2,g3,g4,g6,g5⟩:=M.acc
    rw [←hR] at g2
    rw [←hP] at g3
    rw [←hA] at g4 g6
    exact ⟨vR,vP,vA,by rw [hh I.m (by omega) (by omega) (by omega),g1],g2.keep hn fun id hb hid _=>hh id hid (by omega) (by omega),g3.keep hn fun id hb hid _=>hh id hid (by omega) (by omega),g4.keep hn fun id hb hid _=>hh id hid (by omega) (by omega),g6,g5⟩
end
def setX (st:MS) (x:Str) (l:DLin) (k:Nat):MS:=⟨eset st.E x l,k,st.rows,st.pars,st.args⟩
def addR (st:MS) (l:DLin):MS:=⟨st.E,st.nx,st.rows++[l],st.pars,st.args⟩
def addP (st:MS) (l:DLin):MS:=⟨st.E,st.nx,st.rows,st.pars++[l],st.args⟩
def addA (st:MS) (l:List DLin):MS:=⟨st.E,st.nx,st.rows,st.pars,st.args++[l]⟩
set_option maxRecDepth 20000
set_option maxHeartbeats 2000000
section
variable {p:DProgram} {r:DRule} {f:DFunction} {N:Nat} {I:Ids} {st:MS} {h:Heap} {n:Nat} {K:AV→Heap→Nat→Prop}
theorem call_fresh (M:MI p r f N I st h n) (x:Str) (hx:st.nx≤100000000)
    (hK:∀ q h' n',n≤q→q<n'→(∀ id,id<n→id≠I.d→id≠I.x→h' id=h id)→h' q=some ⟨false,1,intsR (varL st.nx N).Coeffs⟩→MI p r f N I (setX st x (varL st.nx N) (st.nx+1)) h' n'→K (linV (varL st.nx N) q) h' n') :
    ACall Tryz.prog 99 [.str x,.ptr I.x 0 0,.ptr 6 0 0,.ptr I.s 0 0] h n K:=by
  obtain ⟨l1,l2,l3,l4,l5⟩:=M.lt
  refine acall_body Tryz.func99 a99_ok rfl (by simp [a99]) ?_
  have ne:¬I.x=n∧¬I.x=n+1∧¬I.x=n+1+1∧¬I.d=n∧¬I.d=n+1∧¬I.d=n+1+1∧¬I.s=n∧¬I.s=n+1∧¬I.s=n+1+1∧¬I.d=I.x∧¬I.x=I.d∧¬I.s=I.d∧¬I.s=I.x∧¬6=n∧¬6=n+1∧¬6=n+1+1∧¬n=6∧¬n=5∧¬n=4∧¬5=n∧¬4=n ∧
    ¬n=I.x∧¬n+1=I.x∧¬n+1+1=I.x∧¬n=I.d∧¬n+1=I.d∧¬n+1+1=I.d∧¬n=n+1∧¬n+1=n∧¬n=n+1+1∧¬n+1+1=n∧¬n+1=n+1+1:=by omega
  have hw:IntKind.i64.wrap ((st.nx:Int)+1)=(st.nx:Int)+1:=wrap64 (by omega)
  obtain ⟨es,hE,hd,hes⟩:=M.map
  simp [a99,M.hnx,M.hn,M.hmp,ne]
  first | refine callD_of (k_VarLin st.nx N) (by simp) ?_ | refine call_of (k_VarLin st.nx N) (by simp) ?_ | refine callD_of (k_VarLin st.nx N) rfl ?_ | refine call_of (k_VarLin st.nx N) rfl ?_
  rintro r rfl
  simp [rULin,M.hnx,M.hn,M.hmp,ne,hd,hw]
  refine hK (n+1) _ _ (by omega) (by omega) ?_ ?_ ?_
  · intro id hid h1 h2
    have:¬id=n∧¬id=n+1∧¬id=n+1+1:=by omega
    simp [this,h1,h2]
  · simp [ne]
  · refine M.upd_map (x:=x) (l:=varL st.nx N) (q:=n+1) rfl rfl rfl rfl (by omega) (by omega) (by simp [ne]) (by simp [ne,setX]) ?_ ?_
    · intro id hid h1 h2
      have:¬id=n∧¬id=n+1∧¬id=n+1+1:=by omega
      simp [this,h1,h2]
    · intro es' hd'
      rw [hd] at hd'
      simp only [Option.some.injEq,Blk.mk.injEq,true_and] at hd'
      rw [←mset_ents,←hd']
      simp [ne,linV]
theorem call_row (M:MI p r f N I st h n) {l:DLin} {q:Nat} (hl:l.Coeffs.length≤1048576) (hqn:q<n) (hq:h q=some ⟨false,1,intsR l.Coeffs⟩) (hrl:st.rows.length≤1000000)
    (hK:∀ h' n',n≤n'→(∀ id,id<n→id≠I.m→(∀ l,h id≠some ⟨false,2,l⟩)→h' id=h id)→MI p r f N I (addR st l) h' n'→K (.tup []) h' n') :
    ACall Tryz.prog 100 [linV l q,.ptr I.m 0 0] h n K:=by
  obtain ⟨l1,l2,l3,l4,l5⟩:=M.lt
  refine acall_body Tryz.func100 a100_ok rfl (by simp [a100]) ?_
  have ne:¬I.m=n∧¬I.m=n+1∧¬I.m=n+1+1∧¬I.m=n+1+1+1∧¬I.m=n+2∧¬n=I.m∧¬n+1=I.m∧¬n+1+1=I.m∧¬n+2=I.m∧¬n+1+1+1=I.m∧¬q=n∧¬q=n+1∧¬n=n+1∧¬n+1=n∧¬n=n+1+1∧¬n+1+1=n∧¬n+1=n+1+1∧¬n+2=n+1∧¬n+1=n+2∧¬n+3=I.m∧¬I.m=n+3:=by omega
  obtain ⟨vR,vP,vA,g1,g2,g3,g4,g6,g5⟩:=M.acc
  simp [a100,linV,g1,mRow,ne]
  first | refine callD_of (k_copyLin l hl) (by simp [rALin,hq,ne]) ?_ | refine call_of (k_copyLin l hl) (by simp [rALin,hq,ne]) ?_ | refine callD_of (k_copyLin l hl) rfl ?_ | refine call_of (k_copyLin l hl) rfl ?_
  rintro r rfl
  rcases g2 with ⟨hz,rfl⟩ | ⟨i,hi,hin,rfl,hib⟩
  · have hz':st.rows=[]:=by simpa using hz
    simp [rULin,g1,mRow,ne]
    refine ⟨by unfold LIM; omega,?_⟩
    refine hK _ _ (by omega) ?_ (M.upd_acc (st':=addR st l) rfl rfl (by omega) (fun _=>False) (fun _ h=>h.elim) ?_ ?_)
    · intro id hid hm _
      have:¬id=n∧¬id=n+1∧¬id=n+1+1∧¬id=n+1+1+1:=by omega
      simp [this,hm]
    · intro id hid hm _
      have:¬id=n∧¬id=n+1∧¬id=n+1+1∧¬id=n+1+1+1:=by omega
      simp [this,hm]
    · have fr:∀ id,id<n→I.x<id→¬id=n∧¬id=n+1∧¬id=n+1+1∧¬id=n+1+1+1∧¬id=I.m:=by intro id _ _; omega
      refine ⟨.ref (n+3) 0 1,vP,vA,by simp [mRow],.inr ⟨n+3,by omega,by omega,by simp [addR,hz'],by simp [addR,hz',rULin,ne]⟩,g3.keep (by omega) fun id hb hid _=>by simp [fr id hid hb],g4.keep (by omega) fun id hb hid _=>by simp [fr id hid hb],g6,?_⟩
      intro i k j l' e1 e2
      simp only [AV.ref.injEq] at e1
      rcases g3 with ⟨_,e⟩ | ⟨j',_,hj',e,_⟩
      · rw [e] at e2; cases e2
      · rw [e] at e2; simp only [AV.ref.injEq] at e2; omega
  · have hi1:st.rows.length<1000001:=by omega
    have ni:¬i=n∧¬i=n+1∧¬i=n+1+1∧¬i=n+1+1+1∧¬i=I.m∧¬I.m=i∧¬n=i∧¬n+1=i∧¬n+1+1=i∧¬n+1+1+1=i:=by omega
    simp [rULin,g1,mRow,ne,ni,hib]
    refine ⟨by unfold LIM; omega,?_⟩
    refine hK _ _ (by omega) ?_ (M.upd_acc (st':=addR st l) rfl rfl (by omega) (fun id=>id=i) (fun id e=>⟨by omega,fun l hl=>by rw [e,hib] at hl; simp at hl⟩) ?_ ?_)
    · intro id hid hm h2
      have:¬id=n∧¬id=n+1∧¬id=n+1+1∧¬id=n+1+1+1:=by omega
      have hii:¬id=i:=fun e=>h2 _ (by rw [e]; exact hib)
      simp [this,hm,hii]
    · intro id hid hm hii
      have:¬id=n∧¬id=n+1∧¬id=n+1+1∧¬id=n+1+1+1:=by omega
      simp [this,hm,hii]
    · have fr:∀ id,id<n→I.x<id→¬id=n∧¬id=n+1∧¬id=n+1+1∧¬id=n+1+1+1∧¬id=I.m:=by intro id _ _; omega
      refine ⟨.ref (n+3) 0 (st.rows.length+1),vP,vA,by simp [mRow],.inr ⟨n+3,by omega,by omega,by simp [addR],by simp [addR,rULin,ne,List.take_of_length_le]⟩,g3.keep (by omega) fun id hb hid e => ?_,g4.keep (by omega) fun id hb hid e => ?_,g6,?_⟩
      · have hii:¬id=i:=fun e'=>g5 i _ id _ rfl e e'.symm
        simp [fr id hid hb,hii]
      · have hii:¬id=i:=by
          intro e'
          rcases g4 with ⟨_,e2⟩ | ⟨j',_,_,e2,hjb⟩
          · rw [e2] at e; cases e
          · rw [e2] at e; simp only [AV.ref.injEq] at e
            rw [e.1,e',hib] at hjb
            simp at hjb
        simp [fr id hid hb,hii]
      · intro i' k j l' e1 e2
        simp only [AV.ref.injEq] at e1
        rcases g3 with ⟨_,e⟩ | ⟨j',_,hj',e,_⟩
        · rw [e] at e2; cases e2
        · rw [e] at e2; simp only [AV.ref.injEq] at e2; omega
end
end Go.Proofs.YtilcageplifbgaaGreat

namespace Go.Proofs.YtilcageplifbgaaGreat
set_option linter.all false
open Go Go.RowKit Go.Proofs
def a278:AFn:=
⟨5,[(.t 2)],(.seq
 (.reg [⟨some 2,(.mv (.k (.bool false))),no⟩]) (.seq
 (.reg [⟨some 3,(.mv (.t 0)),no⟩,⟨some 4,(.call (.k (.fn (.func 98) [] [])) [(.t 3),(.k (.int .i64 (-1000000))),(.k (.int .i64 1000000))]),no⟩,⟨some 2,(.mv (.t 4)),no⟩]) .ret))⟩
theorem a278_ok:compFn Tryz.prog Tryz.f278=some a278:=by kernel_rfl
def a293:AFn:=
⟨5,[(.t 2)],(.seq
 (.reg [⟨some 2,(.mv (.k (.bool false))),no⟩]) (.seq
 (.reg [⟨some 3,(.mv (.t 0)),no⟩,⟨some 4,(.call (.k (.fn (.func 96) [] [])) [(.t 3),(.k (.int .i64 (-1000000))),(.k (.int .i64 1000000))]),no⟩,⟨some 2,(.mv (.t 4)),no⟩]) .ret))⟩
theorem a293_ok:compFn Tryz.prog Tryz.f293=some a293:=by kernel_rfl
def a150:AFn:=
⟨18,[(.t 2)],(.seq
 (.reg [⟨some 2,(.mv (.k (.bool false))),no⟩]) (.seq (.seq
 (.reg [⟨some 5,(.mv (.t 0)),no⟩,⟨some 6,(.len false (.t 5)),no⟩,⟨some 7,(.mv (.k (.int .i64 0))),no⟩]) (.blk 0 (.loop (.seq
 (.reg [⟨some 8,(.bin .lss (.t 7) (.t 6)),no⟩]) (.seq (.cond (.t 8) .skip (.exit 0)) (.seq (.blk 1 (.seq
 (.reg [⟨some 9,(.mv (.t 7)),no⟩,⟨some 10,(.ixa 1 (.t 5) (.t 7)),no⟩,⟨some 11,(.ld false 1 (.t 10)),no⟩,⟨some 3,(.mv (.t 9)),no⟩,⟨some 4,(.mv (.t 11)),no⟩]) (.seq
 (.reg [⟨some 12,(.mv (.t 0)),no⟩,⟨some 13,(.mv (.t 3)),no⟩,⟨some 14,(.slc false 1 (.t 12) Option.none (some (.t 13))),no⟩,⟨some 15,(.mv (.t 4)),no⟩,⟨some 16,(.call (.k (.fn (.func 81) [] [])) [(.t 14),(.t 15)]),no⟩]) (.cond (.t 16) (.seq
 (.reg [⟨some 2,(.mv (.k (.bool false))),no⟩]) .ret) .skip))))
 (.reg [⟨some 17,(.bin .add (.t 7) (.k (.int .i64 1))),no⟩,⟨some 7,(.mv (.t 17)),no⟩]))))))) (.seq
 (.reg [⟨some 2,(.mv (.k (.bool true))),no⟩]) .ret)))⟩
theorem a150_ok:compFn Tryz.prog Tryz.f150=some a150:=by kernel_rfl
def a206:AFn:=
⟨18,[(.t 2)],(.seq
 (.reg [⟨some 2,(.mv (.k (.bool false))),no⟩]) (.seq (.seq
 (.reg [⟨some 3,(.mv (.k (.int .i64 0))),no⟩]) (.blk 0 (.loop (.seq (.seq
 (.reg [⟨some 4,(.mv (.t 3)),no⟩,⟨some 5,(.mv (.t 0)),no⟩,⟨some 6,(.len false (.t 5)),no⟩,⟨some 7,(.bin .lss (.t 4) (.t 6)),no⟩]) (.cond (.t 7) .skip (.exit 0))) (.seq (.blk 1 (.seq (.draw (.op ⟨some 10,(.mv (.t 0)),no⟩ (.op ⟨some 11,(.mv (.t 3)),no⟩ (.op ⟨some 12,(.slc false 1 (.t 10) Option.none (some (.t 11))),no⟩ (.op ⟨some 13,(.mv (.t 0)),no⟩ (.op ⟨some 14,(.mv (.t 3)),no⟩ (.op ⟨some 15,(.ixa 1 (.t 13) (.t 14)),no⟩ (.op ⟨some 16,(.ld false 1 (.t 15)),no⟩ (.op ⟨some 17,(.call (.k (.fn (.func 239) [] [])) [(.t 12),(.t 16)]),no⟩ .fin))))))))) (.cond (.t 17) (.seq
 (.reg [⟨some 2,(.mv (.k (.bool false))),no⟩]) .ret) .skip)))
 (.reg [⟨some 8,(.mv (.t 3)),no⟩,⟨some 9,(.bin .add (.t 8) (.k (.int .i64 1))),no⟩,⟨some 3,(.mv (.t 9)),no⟩])))))) (.seq
 (.reg [⟨some 2,(.mv (.k (.bool true))),no⟩]) .ret)))⟩
theorem a206_ok:compFn Tryz.prog Tryz.f206=some a206:=by kernel_rfl
def a279:AFn:=
⟨8,[(.t 3)],(.seq
 (.reg [⟨some 3,(.mv (.k (.bool false))),no⟩]) (.seq
 (.reg [⟨some 4,(.ld false 1 (.t 1)),no⟩,⟨some 5,(.mv (.t 0)),no⟩,⟨some 6,(.call (.k (.fn (.func 81) [] [])) [(.t 4),(.t 5)]),no⟩,⟨some 7,(.un .not (.t 6)),no⟩,⟨some 3,(.mv (.t 7)),no⟩]) .ret))⟩
theorem a279_ok:compFn Tryz.prog Tryz.f279=some a279:=by kernel_rfl
def a226:AFn:=
⟨9,[(.t 4)],(.seq
 (.reg [⟨some 3,(.boxv (.t 1)),no⟩,⟨some 4,(.mv (.k (.bool false))),no⟩]) (.seq
 (.reg [⟨some 5,(.mv (.t 0)),no⟩,⟨some 6,(.mkf (.func 279) [] [(.t 3)]),no⟩,⟨some 7,(.call (.k (.fn (.func 78) [] [])) [(.t 5),(.t 6)]),no⟩,⟨some 8,(.un .not (.t 7)),no⟩,⟨some 4,(.mv (.t 8)),no⟩]) .ret))⟩
theorem a226_ok:compFn Tryz.prog Tryz.f226=some a226:=by kernel_rfl
def a166:AFn:=
⟨29,[(.t 4)],(.seq
 (.reg [⟨some 4,(.mv (.k (.nil 1))),no⟩]) (.seq
 (.reg [⟨some 7,(.bsl 1 []),no⟩,⟨some 5,(.mv (.t 7)),no⟩]) (.seq (.seq
 (.reg [⟨some 6,(.mv (.k (.int .i64 0))),no⟩]) (.blk 0 (.loop (.seq (.seq
 (.reg [⟨some 8,(.mv (.t 6)),no⟩,⟨some 9,(.mv (.t 0)),no⟩,⟨some 10,(.len false (.t 9)),no⟩,⟨some 11,(.bin .lss (.t 8) (.t 10)),no⟩]) (.cond (.t 11) .skip (.exit 0))) (.seq (.blk 1 (.seq
 (.reg [⟨some 14,(.mv (.t 1)),no⟩,⟨some 15,(.mv (.t 0)),no⟩,⟨some 16,(.mv (.t 6)),no⟩,⟨some 17,(.ixa 1 (.t 15) (.t 16)),no⟩,⟨some 18,(.ld false 1 (.t 17)),no⟩,⟨some 19,(.call (.k (.fn (.func 239) [] [])) [(.t 14),(.t 18)]),no⟩,⟨some 20,(.un .not (.t 19)),no⟩]) (.cond (.t 20)
 (.reg [⟨some 21,(.mv (.t 5)),no⟩,⟨some 22,(.mv (.t 0)),no⟩,⟨some 23,(.mv (.t 6)),no⟩,⟨some 24,(.ixa 1 (.t 22) (.t 23)),no⟩,⟨some 25,(.ld false 1 (.t 24)),no⟩,⟨some 26,(.bsl 1 [(.t 25)]),no⟩,⟨some 27,(.app 16 1 (.t 21) (.t 26)),no⟩,⟨some 5,(.mv (.t 27)),no⟩]) .skip)))
 (.reg [⟨some 12,(.mv (.t 6)),no⟩,⟨some 13,(.bin .add (.t 12) (.k (.int .i64 1))),no⟩,⟨some 6,(.mv (.t 13)),no⟩])))))) (.seq
 (.reg [⟨some 28,(.mv (.t 5)),no⟩,⟨some 4,(.mv (.t 28)),no⟩]) .ret))))⟩
theorem a166_ok:compFn Tryz.prog Tryz.f166=some a166:=by kernel_rfl
theorem a78_ok:compFn Tryz.prog Tryz.f78=some (tContainsFunc 167):=by kernel_rfl
theorem a167_ok:compFn Tryz.prog Tryz.f167=some (tIndexFunc false 1):=by kernel_rfl
theorem a280_ok:compFn Tryz.prog Tryz.f280=some (tContainsFunc 299):=by kernel_rfl
theorem a299_ok:compFn Tryz.prog Tryz.f299=some (tIndexFunc true 2):=by kernel_rfl
theorem rC_condF {P:Program} {s:Env} {h:Heap} {n:Nat} {Q:Fin} {ks:List Kt} {c:Nat} {e:AC} (hc:s c = .bool false) (h1:kont P ks .normal s h n Q):rC P (.cond (.t c) e .skip) ks s h n Q:=by
  rw [rC_cond]
  have:ev s (.t c) = .bool false:=hc
  rw [this]
  simpa using h1
theorem k_Fits (n:Int):Holds Tryz.prog 278 [i64 n] (fun r=>r = .bool (fits n)):=by
  refine holds_of_run Tryz.func278 a278_ok rfl (by simp [a278]) ?_
  simp [a278]
  first | refine callD_of (k_within n (-1000000) 1000000) (by simp) ?_ | refine call_of (k_within n (-1000000) 1000000) (by simp) ?_ | refine callD_of (k_within n (-1000000) 1000000) rfl ?_ | refine call_of (k_within n (-1000000) 1000000) rfl ?_
  rintro r rfl
  simp
  rfl
theorem ks_Fits (n:Int):Holds Tryz.prog 293 [i64 n] (fun r=>r = .bool (fits n)):=by
  refine holds_of_run Tryz.func293 a293_ok rfl (by simp [a293]) ?_
  simp [a293]
  first | refine callD_of (k_l1In n (-1000000) 1000000) (by simp) ?_ | refine call_of (k_l1In n (-1000000) 1000000) (by simp) ?_ | refine callD_of (k_l1In n (-1000000) 1000000) rfl ?_ | refine call_of (k_l1In n (-1000000) 1000000) rfl ?_
  rintro r rfl
  simp
  rfl
theorem k_AllDistinct (l:List Str):Holds Tryz.prog 150 [.sl 1 (strsR l)] (fun r=>r = .bool (distB l)):=by
  refine holds_of_lim Tryz.func150 rfl rfl fun hl => ?_
  simp at hl
  refine holds_of_run Tryz.func150 a150_ok rfl (by simp [a150]) ?_
  simp [a150]
  intro _
  unfold distB
  generalize hB:distFrom [] l=B
  refine rL_forS [0,5,6] 7 l.length (fun i _=>distFrom (l.take i) (l.drop i)=B) hl (by simp) (by simpa using hB) ?_ ?_
  · rintro i st h R hi hg hk s7 hw hJ hh hR hret _
    simp at hk
    rw [List.drop_eq_getElem_cons hi] at hJ
    simp only [distFrom] at hJ
    rw [List.take_append_getElem hi] at hJ
    simp [hk,s7,hi,hg,lowOf,asI]
    refine ⟨by omega,?_⟩
    have ht:List.take i (strsR l)=strsR (l.take i):=by simp [strsR]
    first | refine callD_of (k_Contains (l.take i) (l[i]'hi)) (by simp [ht]) ?_ | refine call_of (k_Contains (l.take i) (l[i]'hi)) (by simp [ht]) ?_ | refine callD_of (k_Contains (l.take i) (l[i]'hi)) rfl ?_ | refine call_of (k_Contains (l.take i) (l[i]'hi)) rfl ?_
    rintro r rfl
    cases hc:hasS (l.take i) l[i]
    · rw [hc] at hJ
      simp at hJ
      simp [hk,s7,hw]
      exact hR _ (by simp [hk]) (by simp) hJ
    · rw [hc] at hJ
      simp at hJ
      simp
      refine hret _ _ _ ?_
      simp [hJ]
  · rintro st h R hk s7 hJ hh _ hX
    simp at hk
    rw [List.drop_eq_nil_of_le (by omega)] at hJ
    simp [hk,s7]
    refine hX _ _ ?_
    simp [←hJ,distFrom]
theorem ks_AllDistinct (l:List Str):Holds Tryz.prog 206 [.sl 1 (strsR l)] (fun r=>r = .bool (distB l)):=by
  refine holds_of_lim Tryz.func206 rfl rfl fun hl => ?_
  simp at hl
  refine holds_of_run Tryz.func206 a206_ok rfl (by simp [a206]) ?_
  simp [a206]
  unfold distB
  generalize hB:distFrom [] l=B
  refine rL_forS [0] 3 l.length (fun i _=>distFrom (l.take i) (l.drop i)=B) hl (by simp) (by simpa using hB) ?_ ?_
  · rintro i st h R hi hg hk s3 hw hJ hh hR hret _
    simp at hk
    rw [List.drop_eq_getElem_cons hi] at hJ
    simp only [distFrom] at hJ
    rw [List.take_append_getElem hi] at hJ
    simp [hk,s3,hi,hg,lowOf,asI]
    intro _
    refine ⟨by omega,?_⟩
    have ht:List.take i (strsR l)=strsR (l.take i):=by simp [strsR]
    first | refine callD_of (ks_l1Has (l.take i) (l[i]'hi)) (by simp [ht]) ?_ | refine call_of (ks_l1Has (l.take i) (l[i]'hi)) (by simp [ht]) ?_ | refine callD_of (ks_l1Has (l.take i) (l[i]'hi)) rfl ?_ | refine call_of (ks_l1Has (l.take i) (l[i]'hi)) rfl ?_
    rintro r rfl
    cases hc:hasS (l.take i) l[i]
    · rw [hc] at hJ
      simp at hJ
      simp [hk,s3,hw]
      exact hR _ (by simp [hk]) (by simp) hJ
    · rw [hc] at hJ
      simp at hJ
      simp
      refine hret _ _ _ ?_
      simp [hJ]
  · rintro st h R hk s3 hJ hh _ hX
    simp at hk
    rw [List.drop_eq_nil_of_le (by omega)] at hJ
    simp [hk,s3]
    intro _
    refine hX _ _ ?_
    simp [←hJ,distFrom]
theorem any_notS (l scope:List Str):(l.any fun s => !hasS scope s) = !allS l scope:=by unfold allS; rw [any_not]
theorem pure_allIn {h:Heap} {n id:Nat} {scope:List Str} (x:Str) (hv:h id=some ⟨true,1,[[.sl 1 (strsR scope)]]⟩) (hid:id<n):Pure1 Tryz.prog 279 [] [.ptr id 0 0] h n (.str x) (.bool (!hasS scope x)):=by
  intro K hK
  refine acall_gc ?_
  refine acall_body Tryz.func279 a279_ok rfl (by simp [a279]) ?_
  have n1:¬id=n:=by omega
  simp [a279,hv,n1]
  first | refine callD_of (k_Contains scope x) (by simp) ?_ | refine call_of (k_Contains scope x) (by simp) ?_ | refine callD_of (k_Contains scope x) rfl ?_ | refine call_of (k_Contains scope x) rfl ?_
  rintro r rfl
  simp [scal,hK]
theorem k_allIn (l scope:List Str):Holds Tryz.prog 226 [.sl 1 (strsR l),.sl 1 (strsR scope)] (fun r=>r = .bool (allS l scope)):=by
  refine holds_of_run Tryz.func226 a226_ok rfl (by simp [a226]) ?_
  simp [a226]
  refine acall_tContainsFunc (p:=fun s => !hasS scope s) (rowOf:=fun s=>[.str s]) (eltOf:=fun s => .str s) Tryz.func78 a78_ok rfl Tryz.func167 a167_ok rfl (fun x=>by simp) l
    (fun x _=>pure_allIn (scope:=scope) x (by simp) (by omega)) ?_
  rw [any_notS]
  simp
theorem without_drop {l scope:List Str} {i:Nat} (hi:i<l.length):withoutL (l.drop i) scope=(if hasS scope l[i] then [] else [l[i]])++withoutL (l.drop (i+1)) scope:=by
  rw [List.drop_eq_getElem_cons hi]
  unfold withoutL
  rw [List.filter_cons]
  cases hasS scope l[i] <;> simp
theorem ks_Without (l scope:List Str) (hl:l.length≤1048576):Holds Tryz.prog 166 [.sl 1 (strsR l),.sl 1 (strsR scope)] (fun r=>r = .us 1 (strsR (withoutL l scope))):=by
  refine holds_of_run Tryz.func166 a166_ok rfl (by simp [a166]) ?_
  simp [a166]
  generalize hB:withoutL l scope=B
  have hBl:B.length≤l.length:=by rw [←hB]; exact List.length_filter_le _ _
  refine rL_forO [0,1] 6 l.length (fun i s h n=>∃ (acc:List Str) (id:Nat),s 5 = .ref id 0 acc.length∧h id=some ⟨false,1,strsR acc⟩∧id<n∧acc++withoutL (l.drop i) scope=B)
    (by unfold LIM; omega) (by simp) ⟨[],0,by simp,by simp [strsR],by simp,by simpa using hB⟩ ?_ ?_
  · rintro i st h n R hi hg hk s6 hw ⟨acc,id,s5,eid,hidn,hJ⟩ hR _ _
    simp at hk
    rw [without_drop hi] at hJ
    have hal:=congrArg List.length hJ
    simp only [List.length_append] at hal
    simp [hk,s6,hi,hg]
    intro _
    first | refine callD_of (ks_l1Has scope (l[i]'hi)) (by simp) ?_ | refine call_of (ks_l1Has scope (l[i]'hi)) (by simp) ?_ | refine callD_of (ks_l1Has scope (l[i]'hi)) rfl ?_ | refine call_of (ks_l1Has scope (l[i]'hi)) rfl ?_
    rintro r rfl
    have n0:¬id=n:=by omega
    have n1:¬id=n+1:=by omega
    have n2:¬n+1=id:=by omega
    have n3:¬n=id:=by omega
    cases hc:hasS scope l[i]
    · rw [hc] at hJ hal
      simp at hJ hal
      simp [hk,s6,hi,hg,s5,eid,n0,n1,n2,n3,hw]
      refine ⟨by unfold LIM; omega,?_⟩
      exact hR _ _ _ (by simp [hk]) (by simp) ⟨acc++[l[i]],n+1,by simp,by simp [strsR],by omega,by simpa using hJ⟩
    · rw [hc] at hJ
      simp at hJ
      simp [hk,s6,hi,hg,hw]
      exact hR _ _ _ (by simp [hk]) (by simp) ⟨acc,id,by simp [s5],by simp [eid],by omega,hJ⟩
  · rintro st h n R hk s6 ⟨acc,id,s5,eid,hidn,hJ⟩ hret hX
    simp at hk
    rw [List.drop_eq_nil_of_le (by omega)] at hJ
    simp [withoutL] at hJ
    subst hJ
    simp [hk,s6]
    intro _
    refine hX _ _ _ _ ?_
    simp [s5,eid]
end Go.Proofs.YtilcageplifbgaaGreat

namespace Go.Proofs.YtilcageplifbgaaGreat
set_option linter.all false
open Go Go.RowKit Go.Proofs
def a225:AFn:=
⟨55,[(.t 2)],(.seq
 (.reg [⟨some 1,(.boxv (.t 0)),no⟩,⟨some 2,(.mv (.k (.bool false))),no⟩]) (.seq (.seq
 (.reg [⟨some 5,(.fld 0 (.t 1)),no⟩,⟨some 6,(.ld false 1 (.t 5)),no⟩,⟨some 7,(.call (.k (.fn (.func 278) [] [])) [(.t 6)]),no⟩,⟨some 8,(.un .not (.t 7)),no⟩,⟨some 9,(.mv (.t 8)),no⟩,⟨some 10,(.fld 1 (.t 1)),(some (9,false))⟩,⟨some 11,(.ld false 1 (.t 10)),(some (9,false))⟩,⟨some 12,(.len false (.t 11)),(some (9,false))⟩,⟨some 13,(.bin .gtr (.t 12) (.k (.int .i64 4))),(some (9,false))⟩,⟨some 14,(.pick (.t 9) (.k (.bool true)) (.t 13)),no⟩]) (.cond (.t 14) (.seq
 (.reg [⟨some 2,(.mv (.k (.bool false))),no⟩]) .ret) .skip)) (.seq (.seq
 (.reg [⟨some 15,(.fld 1 (.t 1)),no⟩,⟨some 16,(.ld false 1 (.t 15)),no⟩,⟨some 17,(.len false (.t 16)),no⟩,⟨some 18,(.mv (.k (.int .i64 0))),no⟩]) (.blk 0 (.loop (.seq
 (.reg [⟨some 19,(.bin .lss (.t 18) (.t 17)),no⟩]) (.seq (.cond (.t 19) .skip (.exit 0)) (.seq (.blk 1 (.seq
 (.reg [⟨some 20,(.mv (.t 18)),no⟩,⟨some 21,(.ixa 2 (.t 16) (.t 18)),no⟩,⟨some 22,(.ld true 2 (.t 21)),no⟩,⟨some 4,(.box [(.int .i64 0),(.str [])]),no⟩,⟨some 3,(.mv (.t 20)),no⟩,⟨no,(.st 2 (.t 4) (.t 22)),no⟩]) (.seq (.draw (.op ⟨some 23,(.fld 0 (.t 4)),no⟩ (.op ⟨some 24,(.ld false 1 (.t 23)),no⟩ (.op ⟨some 25,(.bin .eql (.t 24) (.k (.int .i64 0))),no⟩ (.op ⟨some 26,(.mv (.t 25)),no⟩ (.op ⟨some 27,(.fld 0 (.t 4)),(some (26,false))⟩ (.op ⟨some 28,(.ld false 1 (.t 27)),(some (26,false))⟩ (.op ⟨some 29,(.call (.k (.fn (.func 278) [] [])) [(.t 28)]),(some (26,false))⟩ (.op ⟨some 30,(.un .not (.t 29)),(some (26,false))⟩ (.op ⟨some 31,(.pick (.t 26) (.k (.bool true)) (.t 30)),no⟩ (.op ⟨some 32,(.mv (.t 31)),no⟩ (.op ⟨some 33,(.fld 1 (.t 4)),(some (32,false))⟩ (.op ⟨some 34,(.ld false 1 (.t 33)),(some (32,false))⟩ (.op ⟨some 35,(.call (.k (.fn (.func 149) [] [])) [(.t 34)]),(some (32,false))⟩ (.op ⟨some 36,(.un .not (.t 35)),(some (32,false))⟩ (.op ⟨some 37,(.pick (.t 32) (.k (.bool true)) (.t 36)),no⟩ (.op ⟨some 38,(.mv (.t 37)),no⟩ (.op ⟨some 39,(.mv (.t 3)),(some (38,false))⟩ (.op ⟨some 40,(.bin .gtr (.t 39) (.k (.int .i64 0))),(some (38,false))⟩ (.op ⟨some 41,(.mv (.t 40)),(some (38,false))⟩ (.op ⟨some 42,(.fld 1 (.t 1)),(some (41,true))⟩ (.op ⟨some 43,(.ld false 1 (.t 42)),(some (41,true))⟩ (.op ⟨some 44,(.mv (.t 3)),(some (41,true))⟩ (.op ⟨some 45,(.bin .sub (.t 44) (.k (.int .i64 1))),(some (41,true))⟩ (.op ⟨some 46,(.ixa 2 (.t 43) (.t 45)),(some (41,true))⟩ (.op ⟨some 47,(.fld 1 (.t 46)),(some (41,true))⟩ (.op ⟨some 48,(.ld false 1 (.t 47)),(some (41,true))⟩ (.op ⟨some 49,(.fld 1 (.t 4)),(some (41,true))⟩ (.op ⟨some 50,(.ld false 1 (.t 49)),(some (41,true))⟩ (.op ⟨some 51,(.bin .geq (.t 48) (.t 50)),(some (41,true))⟩ (.op ⟨some 52,(.pick (.t 41) (.t 51) (.k (.bool false))),(some (38,false))⟩ (.op ⟨some 53,(.pick (.t 38) (.k (.bool true)) (.t 52)),no⟩ .fin)))))))))))))))))))))))))))))))) (.cond (.t 53) (.seq
 (.reg [⟨some 2,(.mv (.k (.bool false))),no⟩]) .ret) .skip))))
 (.reg [⟨some 54,(.bin .add (.t 18) (.k (.int .i64 1))),no⟩,⟨some 18,(.mv (.t 54)),no⟩]))))))) (.seq
 (.reg [⟨some 2,(.mv (.k (.bool true))),no⟩]) .ret))))⟩
theorem a225_ok:compFn Tryz.prog Tryz.f225=some a225:=by kernel_rfl
def prevN (l:List DTerm) (i:Nat):Option Str:=if i=0 then Option.none else (l[i - 1]?).map (·.Name)
theorem prevN_succ {l:List DTerm} {i:Nat} (hi:i<l.length):prevN l (i+1)=some (l[i]).Name:=by simp [prevN,hi]
set_option maxRecDepth 20000 in
set_option maxHeartbeats 1000000 in
theorem k_IsValidSum (x:DSum):Holds Tryz.prog 225 [.agg (rASum x)] (fun r=>r = .bool (okSum x)):=by
  refine holds_of_run Tryz.func225 a225_ok rfl (by simp [a225]) ?_
  simp [a225,rASum]
  first | refine callD_of (k_Fits x.Const) (by simp) ?_ | refine call_of (k_Fits x.Const) (by simp) ?_ | refine callD_of (k_Fits x.Const) rfl ?_ | refine call_of (k_Fits x.Const) rfl ?_
  rintro r rfl
  unfold okSum
  cases h1:fits x.Const
  · simp
  simp
  intro hl
  have hd:decide (x.Terms.length≤4)=decide ((x.Terms.length:Int)≤4):=by rw [decide_eq_decide]; omega
  rw [hd]
  by_cases h2:(x.Terms.length:Int)≤4
  case neg=>
    have h2n:¬x.Terms.length≤4:=by omega
    simp [h2,h2n,Int.not_le.1 h2]
  simp [h2,Int.not_lt.2 h2]
  intro _
  generalize hB:termsOk Option.none x.Terms=B
  refine rL_forO [1,16,17] 18 x.Terms.length (fun i s h n=>0<n∧h 0=some ⟨true,2,[[i64 x.Const,.sl 2 (x.Terms.map rATerm)]]⟩∧termsOk (prevN x.Terms i) (x.Terms.drop i)=B) hl (by simp) ⟨by simp,by simp,by simpa [prevN] using hB⟩ ?_ ?_
  · rintro i st h n R hi hg hk s18 hw ⟨hn,e0,hJ⟩ hR hret _
    simp at hk
    rw [List.drop_eq_getElem_cons hi] at hJ
    simp only [termsOk] at hJ
    have z0:¬0=n:=by omega
    refine rC_cut [1,16,17,18] (fun s=>s 19 = .bool true) (by simp [hk,s18,hi]) ?_
    intro st1 hk1 s19
    simp at hk1
    refine rC_pass s19 (rC_seqI (rC_blkI ?_))
    refine rC_cutH [1,16,17,18] (fun s h' n'=>s 3 = .int .i64 i∧s 4 = .ptr n 0 0∧n'=n+1∧h' n=some ⟨true,2,[rATerm x.Terms[i]]⟩∧h' 0=some ⟨true,2,[[i64 x.Const,.sl 2 (x.Terms.map rATerm)]]⟩) (by simp [hk,hk1,s18,hi,rATerm,e0,z0]) ?_
    rintro st2 h2 n2 hk2 ⟨s3,s4,rfl,en,e0'⟩
    simp at hk2
    obtain ⟨bad,hbad⟩:∃ bad,bad=(((x.Terms[i]).Coeff==0 || !fits (x.Terms[i]).Coeff || !intName (x.Terms[i]).Name)||(match prevN x.Terms i with | Option.none=>false | some q => !(Op.bytesLess q (x.Terms[i]).Name))):=⟨_,rfl⟩
    refine rC_cut [1,16,17,18] (fun s=>s 53 = .bool bad) ?_ ?_
    · subst hbad
      by_cases c0:(x.Terms[i]).Coeff=0
      · simp [hk,hk1,hk2,s18,hi,rATerm,e0',en,z0,s3,s4,c0]
      simp [hk,hk1,hk2,s18,hi,rATerm,e0',en,z0,s3,s4,c0]
      first | refine callD_of (k_Fits (x.Terms[i]'hi).Coeff) (by simp) ?_ | refine call_of (k_Fits (x.Terms[i]'hi).Coeff) (by simp) ?_ | refine callD_of (k_Fits (x.Terms[i]'hi).Coeff) rfl ?_ | refine call_of (k_Fits (x.Terms[i]'hi).Coeff) rfl ?_
      rintro r rfl
      cases c1:fits (x.Terms[i]).Coeff
      · simp [hk,hk1,hk2,s18,hi,rATerm,e0',en,z0,s3,s4]
      simp [hk,hk1,hk2,s18,hi,rATerm,e0',en,z0,s3,s4]
      first | refine callD_of (k_isIntName (x.Terms[i]'hi).Name) (by simp) ?_ | refine call_of (k_isIntName (x.Terms[i]'hi).Name) (by simp) ?_ | refine callD_of (k_isIntName (x.Terms[i]'hi).Name) rfl ?_ | refine call_of (k_isIntName (x.Terms[i]'hi).Name) rfl ?_
      rintro r rfl
      cases c2:intName (x.Terms[i]).Name
      · simp [hk,hk1,hk2,s18,hi,rATerm,e0',en,z0,s3,s4]
      cases i with
      | zero=>simp [hk,hk1,hk2,s18,hi,rATerm,e0',en,z0,s3,s4,prevN,c0,c1,c2]
      | succ i=>
        have hi':i<x.Terms.length:=by omega
        have hwr:IntKind.i64.wrap (i:Int)=i:=wrap64 (by unfold LIM at hl; omega)
        simp [hk,hk1,hk2,s18,hi,hi',rATerm,e0',en,z0,s3,s4,prevN_succ hi',hwr,c0,c1,c2]
    intro st3 hk3 s53
    simp at hk3
    have hJ':(!bad&&termsOk (some (x.Terms[i]).Name) (x.Terms.drop (i+1)))=B:=by
      rw [←hJ,hbad]
      cases ((x.Terms[i]).Coeff==0) <;> cases (fits (x.Terms[i]).Coeff) <;> cases (intName (x.Terms[i]).Name) <;> cases (prevN x.Terms i) <;> simp
    rw [←prevN_succ hi] at hJ'
    clear hJ hbad
    cases bad
    · simp [hk,hk1,hk2,hk3,s18,s53,hw]
      exact hR _ _ _ (by simp [hk,hk1,hk2,hk3]) (by simp) ⟨by omega,by simp [e0'],by simpa using hJ'⟩
    · simp [hk,hk1,hk2,hk3,s18,s53,hw]
      simp at hJ'
      refine hret _ _ _ ?_
      simp [hJ']
  · rintro st h n R hk s18 ⟨hn,e0,hJ⟩ hret hX
    simp at hk
    rw [List.drop_eq_nil_of_le (by omega)] at hJ
    refine rC_cut [1,16,17,18] (fun s=>s 19 = .bool false) (by simp [hk,s18]) ?_
    intro st1 hk1 s19
    simp at hk1
    refine rC_stop s19 ?_
    simp
    refine hX _ _ _ _ ?_
    simp [←hJ,termsOk]
end Go.Proofs.YtilcageplifbgaaGreat

namespace Go.Proofs.YtilcageplifbgaaGreat
set_option linter.all false
open Go Go.RowKit Go.Proofs
def a267:AFn:=
⟨62,[(.t 2)],(.seq
 (.reg [⟨some 1,(.boxv (.t 0)),no⟩,⟨some 2,(.mv (.k (.bool false))),no⟩]) (.seq (.seq
 (.reg [⟨some 3,(.mv (.k (.int .i64 0))),no⟩]) (.blk 0 (.loop (.seq (.seq
 (.reg [⟨some 5,(.mv (.t 3)),no⟩,⟨some 6,(.fld 1 (.t 1)),no⟩,⟨some 7,(.ld false 1 (.t 6)),no⟩,⟨some 8,(.len false (.t 7)),no⟩,⟨some 9,(.bin .lss (.t 5) (.t 8)),no⟩]) (.cond (.t 9) .skip (.exit 0))) (.seq (.blk 1 (.seq
 (.reg [⟨some 12,(.fld 1 (.t 1)),no⟩,⟨some 13,(.ld false 1 (.t 12)),no⟩,⟨some 14,(.mv (.t 3)),no⟩,⟨some 15,(.ixa 2 (.t 13) (.t 14)),no⟩,⟨some 16,(.ld true 2 (.t 15)),no⟩,⟨some 4,(.box [(.int .i64 0),(.str [])]),no⟩,⟨no,(.st 2 (.t 4) (.t 16)),no⟩]) (.seq (.draw (.op ⟨some 17,(.fld 0 (.t 4)),no⟩ (.op ⟨some 18,(.ld false 1 (.t 17)),no⟩ (.op ⟨some 19,(.bin .eql (.t 18) (.k (.int .i64 0))),no⟩ (.op ⟨some 20,(.mv (.t 19)),no⟩ (.op ⟨some 21,(.fld 0 (.t 4)),(some (20,false))⟩ (.op ⟨some 22,(.ld false 1 (.t 21)),(some (20,false))⟩ (.op ⟨some 23,(.call (.k (.fn (.func 293) [] [])) [(.t 22)]),(some (20,false))⟩ (.op ⟨some 24,(.un .not (.t 23)),(some (20,false))⟩ (.op ⟨some 25,(.pick (.t 20) (.k (.bool true)) (.t 24)),no⟩ (.op ⟨some 26,(.mv (.t 25)),no⟩ (.op ⟨some 27,(.fld 1 (.t 4)),(some (26,false))⟩ (.op ⟨some 28,(.ld false 1 (.t 27)),(some (26,false))⟩ (.op ⟨some 29,(.call (.k (.fn (.func 212) [] [])) [(.t 28)]),(some (26,false))⟩ (.op ⟨some 30,(.un .not (.t 29)),(some (26,false))⟩ (.op ⟨some 31,(.pick (.t 26) (.k (.bool true)) (.t 30)),no⟩ (.op ⟨some 32,(.mv (.t 31)),no⟩ (.op ⟨some 33,(.fld 1 (.t 4)),(some (32,false))⟩ (.op ⟨some 34,(.ld false 1 (.t 33)),(some (32,false))⟩ (.op ⟨some 35,(.call (.k (.fn (.func 143) [] [])) [(.t 34)]),(some (32,false))⟩ (.op ⟨some 36,(.pick (.t 32) (.k (.bool true)) (.t 35)),no⟩ (.op ⟨some 37,(.mv (.t 36)),no⟩ (.op ⟨some 38,(.mv (.t 3)),(some (37,false))⟩ (.op ⟨some 39,(.bin .gtr (.t 38) (.k (.int .i64 0))),(some (37,false))⟩ (.op ⟨some 40,(.mv (.t 39)),(some (37,false))⟩ (.op ⟨some 41,(.fld 1 (.t 1)),(some (40,true))⟩ (.op ⟨some 42,(.ld false 1 (.t 41)),(some (40,true))⟩ (.op ⟨some 43,(.mv (.t 3)),(some (40,true))⟩ (.op ⟨some 44,(.bin .sub (.t 43) (.k (.int .i64 1))),(some (40,true))⟩ (.op ⟨some 45,(.ixa 2 (.t 42) (.t 44)),(some (40,true))⟩ (.op ⟨some 46,(.fld 1 (.t 45)),(some (40,true))⟩ (.op ⟨some 47,(.ld false 1 (.t 46)),(some (40,true))⟩ (.op ⟨some 48,(.fld 1 (.t 4)),(some (40,true))⟩ (.op ⟨some 49,(.ld false 1 (.t 48)),(some (40,true))⟩ (.op ⟨some 50,(.bin .geq (.t 47) (.t 49)),(some (40,true))⟩ (.op ⟨some 51,(.pick (.t 40) (.t 50) (.k (.bool false))),(some (37,false))⟩ (.op ⟨some 52,(.pick (.t 37) (.k (.bool true)) (.t 51)),no⟩ .fin))))))))))))))))))))))))))))))))))))) (.cond (.t 52) (.seq
 (.reg [⟨some 2,(.mv (.k (.bool false))),no⟩]) .ret) .skip))))
 (.reg [⟨some 10,(.mv (.t 3)),no⟩,⟨some 11,(.bin .add (.t 10) (.k (.int .i64 1))),no⟩,⟨some 3,(.mv (.t 11)),no⟩])))))) (.seq
 (.reg [⟨some 53,(.fld 0 (.t 1)),no⟩,⟨some 54,(.ld false 1 (.t 53)),no⟩,⟨some 55,(.call (.k (.fn (.func 293) [] [])) [(.t 54)]),no⟩,⟨some 56,(.mv (.t 55)),no⟩,⟨some 57,(.fld 1 (.t 1)),(some (56,true))⟩,⟨some 58,(.ld false 1 (.t 57)),(some (56,true))⟩,⟨some 59,(.len false (.t 58)),(some (56,true))⟩,⟨some 60,(.bin .leq (.t 59) (.k (.int .i64 4))),(some (56,true))⟩,⟨some 61,(.pick (.t 56) (.t 60) (.k (.bool false))),no⟩,⟨some 2,(.mv (.t 61)),no⟩]) .ret)))⟩
theorem a267_ok:compFn Tryz.prog Tryz.f267=some a267:=by kernel_rfl
set_option maxRecDepth 20000 in
set_option maxHeartbeats 1000000 in
theorem ks_IsValidSum (x:DSum):Holds Tryz.prog 267 [.agg (rASum x)] (fun r=>r = .bool (okSum x)):=by
  refine holds_of_lim Tryz.func267 rfl rfl fun hl => ?_
  simp [rASum] at hl
  refine holds_of_run Tryz.func267 a267_ok rfl (by simp [a267]) ?_
  simp [a267,rASum]
  unfold okSum
  generalize hB:termsOk Option.none x.Terms=B
  refine rL_forO [1] 3 x.Terms.length (fun i s h n=>0<n∧h 0=some ⟨true,2,[[i64 x.Const,.sl 2 (x.Terms.map rATerm)]]⟩∧termsOk (prevN x.Terms i) (x.Terms.drop i)=B) hl (by simp) ⟨by simp,by simp,by simpa [prevN] using hB⟩ ?_ ?_
  · rintro i st h n R hi hg hk s3x hw ⟨hn,e0,hJ⟩ hR hret _
    simp at hk
    rw [List.drop_eq_getElem_cons hi] at hJ
    simp only [termsOk] at hJ
    have z0:¬0=n:=by omega
    refine rC_seqI ?_
    refine rC_cut [1,3] (fun s=>s 9 = .bool true) (by simp [hk,s3x,hi,e0]) ?_
    intro st1 hk1 s9
    simp at hk1
    refine rC_pass1 s9 (rC_seqI (rC_blkI ?_))
    refine rC_cutH [1,3] (fun s h' n'=>s 4 = .ptr n 0 0∧n'=n+1∧h' n=some ⟨true,2,[rATerm x.Terms[i]]⟩∧h' 0=some ⟨true,2,[[i64 x.Const,.sl 2 (x.Terms.map rATerm)]]⟩) (by simp [hk,hk1,s3x,hi,rATerm,e0,z0]) ?_
    rintro st2 h2 n2 hk2 ⟨s4,rfl,en,e0'⟩
    simp at hk2
    obtain ⟨bad,hbad⟩:∃ bad,bad=(((x.Terms[i]).Coeff==0 || !fits (x.Terms[i]).Coeff || !intName (x.Terms[i]).Name)||(match prevN x.Terms i with | Option.none=>false | some q => !(Op.bytesLess q (x.Terms[i]).Name))):=⟨_,rfl⟩
    refine rC_cut [1,3] (fun s=>s 52 = .bool bad) ?_ ?_
    · subst hbad
      by_cases c0:(x.Terms[i]).Coeff=0
      · simp (maxSteps:=1000000) [hk,hk1,hk2,s3x,hi,rATerm,e0',en,z0,s4,c0]
      simp (maxSteps:=1000000) [hk,hk1,hk2,s3x,hi,rATerm,e0',en,z0,s4,c0]
      first | refine callD_of (ks_Fits (x.Terms[i]'hi).Coeff) (by simp) ?_ | refine call_of (ks_Fits (x.Terms[i]'hi).Coeff) (by simp) ?_ | refine callD_of (ks_Fits (x.Terms[i]'hi).Coeff) rfl ?_ | refine call_of (ks_Fits (x.Terms[i]'hi).Coeff) rfl ?_
      rintro r rfl
      cases c1:fits (x.Terms[i]).Coeff
      · simp (maxSteps:=1000000) [hk,hk1,hk2,s3x,hi,rATerm,e0',en,z0,s4]
      simp (maxSteps:=1000000) [hk,hk1,hk2,s3x,hi,rATerm,e0',en,z0,s4]
      first | refine callD_of (ks_IsValidName (x.Terms[i]'hi).Name) (by simp) ?_ | refine call_of (ks_IsValidName (x.Terms[i]'hi).Name) (by simp) ?_ | refine callD_of (ks_IsValidName (x.Terms[i]'hi).Name) rfl ?_ | refine call_of (ks_IsValidName (x.Terms[i]'hi).Name) rfl ?_
      rintro r rfl
      unfold intName
      cases c2:okName (x.Terms[i]).Name
      · simp (maxSteps:=1000000) [hk,hk1,hk2,s3x,hi,rATerm,e0',en,z0,s4]
      simp (maxSteps:=1000000) [hk,hk1,hk2,s3x,hi,rATerm,e0',en,z0,s4]
      first | refine callD_of (ks_IsListName (x.Terms[i]'hi).Name) (by simp) ?_ | refine call_of (ks_IsListName (x.Terms[i]'hi).Name) (by simp) ?_ | refine callD_of (ks_IsListName (x.Terms[i]'hi).Name) rfl ?_ | refine call_of (ks_IsListName (x.Terms[i]'hi).Name) rfl ?_
      rintro r rfl
      cases c3:listName (x.Terms[i]).Name
      case true=>simp (maxSteps:=1000000) [hk,hk1,hk2,s3x,hi,rATerm,e0',en,z0,s4]
      cases i with
      | zero=>simp (maxSteps:=1000000) [hk,hk1,hk2,s3x,hi,rATerm,e0',en,z0,s4,prevN,c0,c1,c2]
      | succ i=>
        have hi':i<x.Terms.length:=by omega
        have hwr:IntKind.i64.wrap (i:Int)=i:=wrap64 (by unfold LIM at hl; omega)
        simp (maxSteps:=1000000) [hk,hk1,hk2,s3x,hi,hi',rATerm,e0',en,z0,s4,prevN_succ hi',hwr,c0,c1,c2]
    intro st3 hk3 s52
    simp at hk3
    have hJ':(!bad&&termsOk (some (x.Terms[i]).Name) (x.Terms.drop (i+1)))=B:=by
      rw [←hJ,hbad]
      cases ((x.Terms[i]).Coeff==0) <;> cases (fits (x.Terms[i]).Coeff) <;> cases (intName (x.Terms[i]).Name) <;> cases (prevN x.Terms i) <;> simp
    rw [←prevN_succ hi] at hJ'
    clear hJ hbad
    cases bad
    · simp (maxSteps:=1000000) [hk,hk1,hk2,hk3,s3x,s52,hw]
      exact hR _ _ _ (by simp [hk,hk1,hk2,hk3]) (by simp) ⟨by omega,by simp [e0'],by simpa using hJ'⟩
    · simp (maxSteps:=1000000) [hk,hk1,hk2,hk3,s3x,s52,hw]
      simp at hJ'
      refine hret _ _ _ ?_
      simp [hJ']
  · rintro st h n R hk s3 ⟨hn,e0,hJ⟩ hret hX
    simp at hk
    rw [List.drop_eq_nil_of_le (by omega)] at hJ
    refine rC_seqI ?_
    refine rC_cut [1,3] (fun s=>s 9 = .bool false) (by simp [hk,s3,e0]) ?_
    intro st1 hk1 s9
    simp at hk1
    refine rC_stop1 s9 ?_
    simp
    refine hX _ _ _ _ ?_
    simp [termsOk] at hJ
    subst hJ
    simp [hk,hk1,e0]
    first | refine callD_of (ks_Fits x.Const) (by simp) ?_ | refine call_of (ks_Fits x.Const) (by simp) ?_ | refine callD_of (ks_Fits x.Const) rfl ?_ | refine call_of (ks_Fits x.Const) rfl ?_
    rintro r rfl
    cases h1:fits x.Const
    · simp
    have hd:decide (x.Terms.length≤4)=decide ((x.Terms.length:Int)≤4):=by rw [decide_eq_decide]; omega
    simp [hk,hk1,e0,hd]
end Go.Proofs.YtilcageplifbgaaGreat

namespace Go.Proofs.YtilcageplifbgaaGreat
set_option linter.all false
open Go Go.RowKit Go.Proofs
def a281:AFn:=
⟨6,[(.t 2)],(.seq
 (.reg [⟨some 1,(.boxv (.t 0)),no⟩,⟨some 2,(.mv (.k (.bool false))),no⟩]) (.seq
 (.reg [⟨some 3,(.ld true 2 (.t 1)),no⟩,⟨some 4,(.call (.k (.fn (.func 225) [] [])) [(.t 3)]),no⟩,⟨some 5,(.un .not (.t 4)),no⟩,⟨some 2,(.mv (.t 5)),no⟩]) .ret))⟩
theorem a281_ok:compFn Tryz.prog Tryz.f281=some a281:=by kernel_rfl
def a230:AFn:=
⟨32,[(.t 2)],(.seq
 (.reg [⟨some 1,(.boxv (.t 0)),no⟩,⟨some 2,(.mv (.k (.bool false))),no⟩]) (.seq (.seq
 (.reg [⟨some 3,(.fld 1 (.t 1)),no⟩,⟨some 4,(.ld false 1 (.t 3)),no⟩,⟨some 5,(.call (.k (.fn (.func 280) [] [])) [(.t 4),(.k (.fn (.func 281) [] []))]),no⟩]) (.cond (.t 5) (.seq
 (.reg [⟨some 2,(.mv (.k (.bool false))),no⟩]) .ret) .skip)) (.seq (.seq
 (.reg [⟨some 6,(.fld 0 (.t 1)),no⟩,⟨some 7,(.ld false 1 (.t 6)),no⟩,⟨some 8,(.un .not (.t 7)),no⟩]) (.cond (.t 8) (.seq
 (.reg [⟨some 9,(.fld 1 (.t 1)),no⟩,⟨some 10,(.ld false 1 (.t 9)),no⟩,⟨some 11,(.len false (.t 10)),no⟩,⟨some 12,(.bin .eql (.t 11) (.k (.int .i64 1))),no⟩,⟨some 13,(.mv (.t 12)),no⟩,⟨some 14,(.fld 2 (.t 1)),(some (13,true))⟩,⟨some 15,(.ld false 1 (.t 14)),(some (13,true))⟩,⟨some 16,(.bin .eql (.t 15) (.k (.str []))),(some (13,true))⟩,⟨some 17,(.pick (.t 13) (.t 16) (.k (.bool false))),no⟩,⟨some 2,(.mv (.t 17)),no⟩]) .ret) .skip)) (.seq
 (.reg [⟨some 18,(.fld 1 (.t 1)),no⟩,⟨some 19,(.ld false 1 (.t 18)),no⟩,⟨some 20,(.len false (.t 19)),no⟩,⟨some 21,(.bin .leq (.t 20) (.k (.int .i64 3))),no⟩,⟨some 22,(.mv (.t 21)),no⟩,⟨some 23,(.fld 2 (.t 1)),(some (22,true))⟩,⟨some 24,(.ld false 1 (.t 23)),(some (22,true))⟩,⟨some 25,(.bin .eql (.t 24) (.k (.str []))),(some (22,true))⟩,⟨some 26,(.mv (.t 25)),(some (22,true))⟩,⟨some 27,(.fld 2 (.t 1)),(some (26,false))⟩,⟨some 28,(.ld false 1 (.t 27)),(some (26,false))⟩,⟨some 29,(.call (.k (.fn (.func 64) [] [])) [(.t 28)]),(some (26,false))⟩,⟨some 30,(.pick (.t 26) (.k (.bool true)) (.t 29)),(some (22,true))⟩,⟨some 31,(.pick (.t 22) (.t 30) (.k (.bool false))),no⟩,⟨some 2,(.mv (.t 31)),no⟩]) .ret))))⟩
theorem a230_ok:compFn Tryz.prog Tryz.f230=some a230:=by kernel_rfl
def a268:AFn:=
⟨44,[(.t 2)],(.seq
 (.reg [⟨some 1,(.boxv (.t 0)),no⟩,⟨some 2,(.mv (.k (.bool false))),no⟩]) (.seq (.seq
 (.reg [⟨some 3,(.mv (.k (.int .i64 0))),no⟩]) (.blk 0 (.loop (.seq (.seq
 (.reg [⟨some 4,(.mv (.t 3)),no⟩,⟨some 5,(.fld 1 (.t 1)),no⟩,⟨some 6,(.ld false 1 (.t 5)),no⟩,⟨some 7,(.len false (.t 6)),no⟩,⟨some 8,(.bin .lss (.t 4) (.t 7)),no⟩]) (.cond (.t 8) .skip (.exit 0))) (.seq (.blk 1 (.seq
 (.reg [⟨some 11,(.fld 1 (.t 1)),no⟩,⟨some 12,(.ld false 1 (.t 11)),no⟩,⟨some 13,(.mv (.t 3)),no⟩,⟨some 14,(.ixa 2 (.t 12) (.t 13)),no⟩,⟨some 15,(.ld true 2 (.t 14)),no⟩,⟨some 16,(.call (.k (.fn (.func 267) [] [])) [(.t 15)]),no⟩,⟨some 17,(.un .not (.t 16)),no⟩]) (.cond (.t 17) (.seq
 (.reg [⟨some 2,(.mv (.k (.bool false))),no⟩]) .ret) .skip)))
 (.reg [⟨some 9,(.mv (.t 3)),no⟩,⟨some 10,(.bin .add (.t 9) (.k (.int .i64 1))),no⟩,⟨some 3,(.mv (.t 10)),no⟩])))))) (.seq (.seq
 (.reg [⟨some 18,(.fld 0 (.t 1)),no⟩,⟨some 19,(.ld false 1 (.t 18)),no⟩,⟨some 20,(.un .not (.t 19)),no⟩]) (.cond (.t 20) (.seq
 (.reg [⟨some 21,(.fld 1 (.t 1)),no⟩,⟨some 22,(.ld false 1 (.t 21)),no⟩,⟨some 23,(.len false (.t 22)),no⟩,⟨some 24,(.bin .eql (.t 23) (.k (.int .i64 1))),no⟩,⟨some 25,(.mv (.t 24)),no⟩,⟨some 26,(.fld 2 (.t 1)),(some (25,true))⟩,⟨some 27,(.ld false 1 (.t 26)),(some (25,true))⟩,⟨some 28,(.bin .eql (.t 27) (.k (.str []))),(some (25,true))⟩,⟨some 29,(.pick (.t 25) (.t 28) (.k (.bool false))),no⟩,⟨some 2,(.mv (.t 29)),no⟩]) .ret) .skip)) (.seq
 (.reg [⟨some 30,(.fld 1 (.t 1)),no⟩,⟨some 31,(.ld false 1 (.t 30)),no⟩,⟨some 32,(.len false (.t 31)),no⟩,⟨some 33,(.bin .leq (.t 32) (.k (.int .i64 3))),no⟩,⟨some 34,(.mv (.t 33)),no⟩,⟨some 35,(.fld 2 (.t 1)),(some (34,true))⟩,⟨some 36,(.ld false 1 (.t 35)),(some (34,true))⟩,⟨some 37,(.bin .eql (.t 36) (.k (.str []))),(some (34,true))⟩,⟨some 38,(.mv (.t 37)),(some (34,true))⟩,⟨some 39,(.fld 2 (.t 1)),(some (38,false))⟩,⟨some 40,(.ld false 1 (.t 39)),(some (38,false))⟩,⟨some 41,(.call (.k (.fn (.func 143) [] [])) [(.t 40)]),(some (38,false))⟩,⟨some 42,(.pick (.t 38) (.k (.bool true)) (.t 41)),(some (34,true))⟩,⟨some 43,(.pick (.t 34) (.t 42) (.k (.bool false))),no⟩,⟨some 2,(.mv (.t 43)),no⟩]) .ret))))⟩
theorem a268_ok:compFn Tryz.prog Tryz.f268=some a268:=by kernel_rfl
def a211:AFn:=
⟨23,[(.t 6)],(.seq
 (.reg [⟨some 3,(.boxv (.t 0)),no⟩,⟨some 6,(.mv (.k (.bool false))),no⟩]) (.seq
 (.reg [⟨some 7,(.ld true 3 (.t 3)),no⟩,⟨some 8,(.call (.k (.fn (.func 268) [] [])) [(.t 7)]),no⟩,⟨some 9,(.mv (.t 8)),no⟩,⟨some 10,(.fld 0 (.t 3)),(some (9,true))⟩,⟨some 11,(.ld false 1 (.t 10)),(some (9,true))⟩,⟨some 12,(.mv (.t 1)),(some (9,true))⟩,⟨some 13,(.beq false (.t 11) (.t 12)),(some (9,true))⟩,⟨some 14,(.pick (.t 9) (.t 13) (.k (.bool false))),no⟩,⟨some 15,(.mv (.t 14)),no⟩,⟨some 16,(.ld true 3 (.t 3)),(some (15,true))⟩,⟨some 17,(.call (.k (.fn (.func 269) [] [])) [(.t 16)]),(some (15,true))⟩,⟨some 18,(.mv (.t 2)),(some (15,true))⟩,⟨some 19,(.call (.k (.fn (.func 166) [] [])) [(.t 17),(.t 18)]),(some (15,true))⟩,⟨some 20,(.len false (.t 19)),(some (15,true))⟩,⟨some 21,(.bin .eql (.t 20) (.k (.int .i64 0))),(some (15,true))⟩,⟨some 22,(.pick (.t 15) (.t 21) (.k (.bool false))),no⟩,⟨some 6,(.mv (.t 22)),no⟩]) .ret))⟩
theorem a211_ok:compFn Tryz.prog Tryz.f211=some a211:=by kernel_rfl
theorem k_Arg1 (s:DSum):Holds Tryz.prog 281 [.agg (rASum s)] (fun r=>r = .bool (!okSum s)):=by
  refine holds_of_run Tryz.func281 a281_ok rfl (by simp [a281]) ?_
  simp [a281,rASum]
  first | refine callD_of (k_IsValidSum s) (by simp [rASum]) ?_ | refine call_of (k_IsValidSum s) (by simp [rASum]) ?_ | refine callD_of (k_IsValidSum s) rfl ?_ | refine call_of (k_IsValidSum s) rfl ?_
  rintro r rfl
  simp
theorem k_IsValidArg (x:DArg):Holds Tryz.prog 230 [.agg (rAArg x)] (fun r=>r = .bool (okArg x)):=by
  refine holds_of_run Tryz.func230 a230_ok rfl (by simp [a230]) ?_
  simp [a230,rAArg]
  refine acall_tContainsFunc (p:=fun s => !okSum s) (rowOf:=rASum) (eltOf:=fun s => .agg (rASum s)) Tryz.func280 a280_ok rfl Tryz.func299 a299_ok rfl (fun x=>by simp) x.Heads
    (fun s _=>pure1_of_holds (k_Arg1 s) (by simp) rfl) ?_
  rw [any_not]
  unfold okArg
  cases h1:x.Heads.all okSum
  · simp
  simp
  cases h2:x.Lst
  · simp
    intro _
    by_cases h3:(x.Heads.length:Int)=1
    · have h3n:x.Heads.length=1:=by omega
      simp [h3,h3n]
    · have h3n:¬x.Heads.length=1:=by omega
      simp [h3,h3n]
  · simp
    intro _
    by_cases h3:(x.Heads.length:Int)≤3
    · have h3n:x.Heads.length≤3:=by omega
      simp [h3,h3n,Int.not_lt.2 h3]
      by_cases h4:x.Base=[]
      · simp [h4]
      simp [h4]
      first | refine callD_of (k_IsListName x.Base) (by simp) ?_ | refine call_of (k_IsListName x.Base) (by simp) ?_ | refine callD_of (k_IsListName x.Base) rfl ?_ | refine call_of (k_IsListName x.Base) rfl ?_
      rintro r rfl
      simp [h4]
    · have h3n:¬x.Heads.length≤3:=by omega
      simp [h3,h3n]
theorem ks_IsValidArg (x:DArg):Holds Tryz.prog 268 [.agg (rAArg x)] (fun r=>r = .bool (okArg x)):=by
  refine holds_of_lim Tryz.func268 rfl rfl fun hl => ?_
  simp [rAArg] at hl
  refine holds_of_run Tryz.func268 a268_ok rfl (by simp [a268]) ?_
  simp [a268,rAArg]
  unfold okArg
  generalize hB:x.Heads.all okSum=B
  refine rL_forS [1] 3 x.Heads.length (fun i _=>(x.Heads.drop i).all okSum=B) hl.1 (by simp) (by simpa using hB) ?_ ?_
  · rintro i st h R hi hg hk s3 hw hJ hh hR hret _
    simp at hk
    rw [List.drop_eq_getElem_cons hi,List.all_cons] at hJ
    have e0:=hh 0
    simp at e0
    simp [hk,s3,hi,hg,e0]
    intro _
    first | refine callD_of (ks_IsValidSum (x.Heads[i]'hi)) (by simp) ?_ | refine call_of (ks_IsValidSum (x.Heads[i]'hi)) (by simp) ?_ | refine callD_of (ks_IsValidSum (x.Heads[i]'hi)) rfl ?_ | refine call_of (ks_IsValidSum (x.Heads[i]'hi)) rfl ?_
    rintro r rfl
    cases hc:okSum x.Heads[i]
    · rw [hc,Bool.false_and] at hJ
      subst hJ
      simp
      refine hret _ _ _ ?_
      simp
    · rw [hc,Bool.true_and] at hJ
      simp [hk,s3,hw]
      exact hR _ (by simp [hk]) (by simp) hJ
  · rintro st h R hk s3 hJ hh _ hX
    simp at hk
    rw [List.drop_eq_nil_of_le (by omega)] at hJ
    have e0:=hh 0
    simp at e0
    simp [hk,s3,e0]
    intro _
    refine hX _ _ ?_
    simp at hJ
    subst hJ
    simp [hk]
    cases h2:x.Lst
    · simp [hk]
      intro _
      by_cases h3:(x.Heads.length:Int)=1
      · have h3n:x.Heads.length=1:=by omega
        simp [h3,h3n,hk]
      · have h3n:¬x.Heads.length=1:=by omega
        simp [h3,h3n]
    · simp [hk]
      intro _
      by_cases h3:(x.Heads.length:Int)≤3
      · have h3n:x.Heads.length≤3:=by omega
        simp [h3,h3n,Int.not_lt.2 h3,hk]
        by_cases h4:x.Base=[]
        · simp [h4]
        simp [h4,hk]
        first | refine callD_of (ks_IsListName x.Base) (by simp) ?_ | refine call_of (ks_IsListName x.Base) (by simp) ?_ | refine callD_of (ks_IsListName x.Base) rfl ?_ | refine call_of (ks_IsListName x.Base) rfl ?_
        rintro r rfl
        simp [h4]
      · have h3n:¬x.Heads.length≤3:=by omega
        simp [h3,h3n]
theorem ks_l10Arg (x:DArg) (b:Bool) (scope:List Str) (hw:wArg x≤1048576):Holds Tryz.prog 211 [.agg (rAArg x),.bool b,.sl 1 (strsR scope)] (fun r=>r = .bool (argOk x b scope)):=by
  refine holds_of_run Tryz.func211 a211_ok rfl (by simp [a211]) ?_
  simp [a211,rAArg]
  first | refine callD_of (ks_IsValidArg x) (by simp [rAArg]) ?_ | refine call_of (ks_IsValidArg x) (by simp [rAArg]) ?_ | refine callD_of (ks_IsValidArg x) rfl ?_ | refine call_of (ks_IsValidArg x) rfl ?_
  rintro r rfl
  unfold argOk
  cases h1:okArg x
  · simp
  simp
  by_cases hb:x.Lst=b
  case neg=>simp [hb]
  simp [hb]
  subst hb
  first | refine callD_of (ks_NamesOf x hw) (by simp [rAArg]) ?_ | refine call_of (ks_NamesOf x hw) (by simp [rAArg]) ?_ | refine callD_of (ks_NamesOf x hw) rfl ?_ | refine call_of (ks_NamesOf x hw) rfl ?_
  rintro r rfl
  simp
  have hl:(snames (argN0 x)).length≤1048576:=Nat.le_trans (snames_len _) (argN0_len x hw)
  first | refine callD_of (ks_Without (snames (argN0 x)) scope hl) (by simp) ?_ | refine call_of (ks_Without (snames (argN0 x)) scope hl) (by simp) ?_ | refine callD_of (ks_Without (snames (argN0 x)) scope hl) rfl ?_ | refine call_of (ks_Without (snames (argN0 x)) scope hl) rfl ?_
  rintro r rfl
  simp
  intro _
  rw [←withoutL_nil]
  rw [Bool.eq_iff_iff]
  simp
end Go.Proofs.YtilcageplifbgaaGreat

namespace Go.Proofs.YtilcageplifbgaaGreat
set_option linter.all false
open Go Go.RowKit Go.Proofs
theorem a276_ok:compFn Tryz.prog Tryz.f276=some (tContainsFunc 298):=by kernel_rfl
theorem a298_ok:compFn Tryz.prog Tryz.f298=some (tIndexFunc true 4):=by kernel_rfl
def a277:AFn:=
⟨9,[(.t 3)],(.seq
 (.reg [⟨some 2,(.boxv (.t 0)),no⟩,⟨some 3,(.mv (.k (.bool false))),no⟩]) (.seq
 (.reg [⟨some 4,(.fld 0 (.t 2)),no⟩,⟨some 5,(.ld false 1 (.t 4)),no⟩,⟨some 6,(.fld 0 (.t 1)),no⟩,⟨some 7,(.ld false 1 (.t 6)),no⟩,⟨some 8,(.bin .eql (.t 5) (.t 7)),no⟩,⟨some 3,(.mv (.t 8)),no⟩]) .ret))⟩
theorem a277_ok:compFn Tryz.prog Tryz.f277=some a277:=by kernel_rfl
def a224:AFn:=
⟨54,[(.t 4)],(.seq
 (.reg [⟨some 2,(.boxv (.t 0)),no⟩,⟨some 4,(.mv (.k (.bool false))),no⟩]) (.seq (.seq
 (.reg [⟨some 7,(.mv (.t 1)),no⟩,⟨some 8,(.len false (.t 7)),no⟩,⟨some 9,(.mv (.k (.int .i64 0))),no⟩]) (.blk 0 (.loop (.seq
 (.reg [⟨some 10,(.bin .lss (.t 9) (.t 8)),no⟩]) (.seq (.cond (.t 10) .skip (.exit 0)) (.seq (.blk 1 (.seq
 (.reg [⟨some 11,(.mv (.t 9)),no⟩,⟨some 12,(.ixa 4 (.t 7) (.t 9)),no⟩,⟨some 13,(.ld true 4 (.t 12)),no⟩,⟨some 6,(.box [(.str []),(.bool false),(.str []),(.str [])]),no⟩,⟨some 5,(.mv (.t 11)),no⟩,⟨no,(.st 4 (.t 6) (.t 13)),no⟩]) (.seq (.seq
 (.reg [⟨some 14,(.fld 0 (.t 6)),no⟩,⟨some 15,(.ld false 1 (.t 14)),no⟩,⟨some 16,(.call (.k (.fn (.func 64) [] [])) [(.t 15)]),no⟩,⟨some 17,(.un .not (.t 16)),no⟩,⟨some 18,(.mv (.t 17)),no⟩,⟨some 19,(.fld 1 (.t 2)),(some (18,false))⟩,⟨some 20,(.ld false 1 (.t 19)),(some (18,false))⟩,⟨some 21,(.fld 0 (.t 6)),(some (18,false))⟩,⟨some 22,(.ld false 1 (.t 21)),(some (18,false))⟩,⟨some 23,(.call (.k (.fn (.func 81) [] [])) [(.t 20),(.t 22)]),(some (18,false))⟩,⟨some 24,(.un .not (.t 23)),(some (18,false))⟩,⟨some 25,(.pick (.t 18) (.k (.bool true)) (.t 24)),no⟩,⟨some 26,(.mv (.t 25)),no⟩,⟨some 27,(.mv (.t 1)),(some (26,false))⟩,⟨some 28,(.mv (.t 5)),(some (26,false))⟩,⟨some 29,(.slc false 4 (.t 27) Option.none (some (.t 28))),(some (26,false))⟩,⟨some 30,(.mkf (.func 277) [] [(.t 6)]),(some (26,false))⟩,⟨some 31,(.call (.k (.fn (.func 276) [] [])) [(.t 29),(.t 30)]),(some (26,false))⟩,⟨some 32,(.pick (.t 26) (.k (.bool true)) (.t 31)),no⟩]) (.cond (.t 32) (.seq
 (.reg [⟨some 4,(.mv (.k (.bool false))),no⟩]) .ret) .skip)) (.seq
 (.reg [⟨some 33,(.fld 1 (.t 6)),no⟩,⟨some 34,(.ld false 1 (.t 33)),no⟩]) (.cond (.t 34) (.seq
 (.reg [⟨some 35,(.fld 2 (.t 6)),no⟩,⟨some 36,(.ld false 1 (.t 35)),no⟩,⟨some 37,(.call (.k (.fn (.func 149) [] [])) [(.t 36)]),no⟩,⟨some 38,(.un .not (.t 37)),no⟩,⟨some 39,(.mv (.t 38)),no⟩,⟨some 40,(.fld 3 (.t 6)),(some (39,false))⟩,⟨some 41,(.ld false 1 (.t 40)),(some (39,false))⟩,⟨some 42,(.call (.k (.fn (.func 64) [] [])) [(.t 41)]),(some (39,false))⟩,⟨some 43,(.un .not (.t 42)),(some (39,false))⟩,⟨some 44,(.pick (.t 39) (.k (.bool true)) (.t 43)),no⟩]) (.cond (.t 44) (.seq
 (.reg [⟨some 4,(.mv (.k (.bool false))),no⟩]) .ret) .skip)) (.seq
 (.reg [⟨some 45,(.fld 2 (.t 6)),no⟩,⟨some 46,(.ld false 1 (.t 45)),no⟩,⟨some 47,(.bin .neq (.t 46) (.k (.str []))),no⟩,⟨some 48,(.mv (.t 47)),no⟩,⟨some 49,(.fld 3 (.t 6)),(some (48,false))⟩,⟨some 50,(.ld false 1 (.t 49)),(some (48,false))⟩,⟨some 51,(.bin .neq (.t 50) (.k (.str []))),(some (48,false))⟩,⟨some 52,(.pick (.t 48) (.k (.bool true)) (.t 51)),no⟩]) (.cond (.t 52) (.seq
 (.reg [⟨some 4,(.mv (.k (.bool false))),no⟩]) .ret) .skip)))))))
 (.reg [⟨some 53,(.bin .add (.t 9) (.k (.int .i64 1))),no⟩,⟨some 9,(.mv (.t 53)),no⟩]))))))) (.seq
 (.reg [⟨some 4,(.mv (.k (.bool true))),no⟩]) .ret)))⟩
theorem a224_ok:compFn Tryz.prog Tryz.f224=some a224:=by kernel_rfl
def a207:AFn:=
⟨72,[(.t 4)],(.seq
 (.reg [⟨some 2,(.boxv (.t 0)),no⟩,⟨some 4,(.mv (.k (.bool false))),no⟩]) (.seq
 (.reg [⟨some 8,(.bsl 1 []),no⟩,⟨some 5,(.mv (.t 8)),no⟩]) (.seq (.seq
 (.reg [⟨some 6,(.mv (.k (.int .i64 0))),no⟩]) (.blk 0 (.loop (.seq (.seq
 (.reg [⟨some 9,(.mv (.t 6)),no⟩,⟨some 10,(.mv (.t 1)),no⟩,⟨some 11,(.len false (.t 10)),no⟩,⟨some 12,(.bin .lss (.t 9) (.t 11)),no⟩]) (.cond (.t 12) .skip (.exit 0))) (.seq (.blk 1 (.seq
 (.reg [⟨some 15,(.mv (.t 1)),no⟩,⟨some 16,(.mv (.t 6)),no⟩,⟨some 17,(.ixa 4 (.t 15) (.t 16)),no⟩,⟨some 18,(.ld true 4 (.t 17)),no⟩,⟨some 7,(.box [(.str []),(.bool false),(.str []),(.str [])]),no⟩,⟨no,(.st 4 (.t 7) (.t 18)),no⟩]) (.seq (.seq
 (.reg [⟨some 19,(.fld 1 (.t 2)),no⟩,⟨some 20,(.ld false 1 (.t 19)),no⟩,⟨some 21,(.fld 0 (.t 7)),no⟩,⟨some 22,(.ld false 1 (.t 21)),no⟩,⟨some 23,(.call (.k (.fn (.func 75) [] [])) [(.t 20),(.t 22)]),no⟩,⟨some 24,(.bin .lss (.t 23) (.k (.int .i64 0))),no⟩,⟨some 25,(.mv (.t 24)),no⟩,⟨some 26,(.fld 0 (.t 7)),(some (25,false))⟩,⟨some 27,(.ld false 1 (.t 26)),(some (25,false))⟩,⟨some 28,(.call (.k (.fn (.func 143) [] [])) [(.t 27)]),(some (25,false))⟩,⟨some 29,(.un .not (.t 28)),(some (25,false))⟩,⟨some 30,(.pick (.t 25) (.k (.bool true)) (.t 29)),no⟩,⟨some 31,(.mv (.t 30)),no⟩,⟨some 32,(.mv (.t 5)),(some (31,false))⟩,⟨some 33,(.fld 0 (.t 7)),(some (31,false))⟩,⟨some 34,(.ld false 1 (.t 33)),(some (31,false))⟩,⟨some 35,(.call (.k (.fn (.func 75) [] [])) [(.t 32),(.t 34)]),(some (31,false))⟩,⟨some 36,(.bin .geq (.t 35) (.k (.int .i64 0))),(some (31,false))⟩,⟨some 37,(.pick (.t 31) (.k (.bool true)) (.t 36)),no⟩]) (.cond (.t 37) (.seq
 (.reg [⟨some 4,(.mv (.k (.bool false))),no⟩]) .ret) .skip)) (.seq
 (.reg [⟨some 38,(.mv (.t 5)),no⟩,⟨some 39,(.fld 0 (.t 7)),no⟩,⟨some 40,(.ld false 1 (.t 39)),no⟩,⟨some 41,(.bsl 1 [(.t 40)]),no⟩,⟨some 42,(.app 16 1 (.t 38) (.t 41)),no⟩,⟨some 5,(.mv (.t 42)),no⟩]) (.seq
 (.reg [⟨some 43,(.fld 1 (.t 7)),no⟩,⟨some 44,(.ld false 1 (.t 43)),no⟩,⟨some 45,(.mv (.t 44)),no⟩,⟨some 46,(.fld 2 (.t 7)),(some (45,true))⟩,⟨some 47,(.ld false 1 (.t 46)),(some (45,true))⟩,⟨some 48,(.call (.k (.fn (.func 204) [] [])) [(.t 47)]),(some (45,true))⟩,⟨some 49,(.un .not (.t 48)),(some (45,true))⟩,⟨some 50,(.mv (.t 49)),(some (45,true))⟩,⟨some 51,(.fld 3 (.t 7)),(some (50,false))⟩,⟨some 52,(.ld false 1 (.t 51)),(some (50,false))⟩,⟨some 53,(.call (.k (.fn (.func 143) [] [])) [(.t 52)]),(some (50,false))⟩,⟨some 54,(.un .not (.t 53)),(some (50,false))⟩,⟨some 55,(.pick (.t 50) (.k (.bool true)) (.t 54)),(some (45,true))⟩,⟨some 56,(.pick (.t 45) (.t 55) (.k (.bool false))),no⟩,⟨some 57,(.mv (.t 56)),no⟩,⟨some 58,(.fld 1 (.t 7)),(some (57,false))⟩,⟨some 59,(.ld false 1 (.t 58)),(some (57,false))⟩,⟨some 60,(.un .not (.t 59)),(some (57,false))⟩,⟨some 61,(.mv (.t 60)),(some (57,false))⟩,⟨some 62,(.fld 2 (.t 7)),(some (61,true))⟩,⟨some 63,(.ld false 1 (.t 62)),(some (61,true))⟩,⟨some 64,(.bin .neq (.t 63) (.k (.str []))),(some (61,true))⟩,⟨some 65,(.mv (.t 64)),(some (61,true))⟩,⟨some 66,(.fld 3 (.t 7)),(some (65,false))⟩,⟨some 67,(.ld false 1 (.t 66)),(some (65,false))⟩,⟨some 68,(.bin .neq (.t 67) (.k (.str []))),(some (65,false))⟩,⟨some 69,(.pick (.t 65) (.k (.bool true)) (.t 68)),(some (61,true))⟩,⟨some 70,(.pick (.t 61) (.t 69) (.k (.bool false))),(some (57,false))⟩,⟨some 71,(.pick (.t 57) (.k (.bool true)) (.t 70)),no⟩]) (.cond (.t 71) (.seq
 (.reg [⟨some 4,(.mv (.k (.bool false))),no⟩]) .ret) .skip))))))
 (.reg [⟨some 13,(.mv (.t 6)),no⟩,⟨some 14,(.bin .add (.t 13) (.k (.int .i64 1))),no⟩,⟨some 6,(.mv (.t 14)),no⟩])))))) (.seq
 (.reg [⟨some 4,(.mv (.k (.bool true))),no⟩]) .ret))))⟩
theorem a207_ok:compFn Tryz.prog Tryz.f207=some a207:=by kernel_rfl
def a208:AFn:=
⟨32,[(.t 4)],(.seq
 (.reg [⟨some 4,(.mv (.k (.bool false))),no⟩]) (.seq (.seq
 (.reg [⟨some 5,(.mv (.k (.int .i64 0))),no⟩]) (.blk 0 (.loop (.seq (.seq
 (.reg [⟨some 6,(.mv (.t 5)),no⟩,⟨some 7,(.mv (.t 0)),no⟩,⟨some 8,(.len false (.t 7)),no⟩,⟨some 9,(.bin .lss (.t 6) (.t 8)),no⟩]) (.cond (.t 9) .skip (.exit 0))) (.seq (.blk 1 (.seq
 (.reg [⟨some 12,(.mv (.t 0)),no⟩,⟨some 13,(.mv (.t 5)),no⟩,⟨some 14,(.ixa 2 (.t 12) (.t 13)),no⟩,⟨some 15,(.ld true 2 (.t 14)),no⟩,⟨some 16,(.call (.k (.fn (.func 267) [] [])) [(.t 15)]),no⟩,⟨some 17,(.un .not (.t 16)),no⟩,⟨some 18,(.mv (.t 17)),no⟩,⟨some 19,(.mv (.t 0)),(some (18,false))⟩,⟨some 20,(.mv (.t 5)),(some (18,false))⟩,⟨some 21,(.mv (.t 5)),(some (18,false))⟩,⟨some 22,(.bin .add (.t 21) (.k (.int .i64 1))),(some (18,false))⟩,⟨some 23,(.slc false 2 (.t 19) (some (.t 20)) (some (.t 22))),(some (18,false))⟩,⟨some 24,(.build [(.bool false),(.nil 2),(.str [])] [(1,(1,(.t 23)))]),(some (18,false))⟩,⟨some 25,(.mv (.t 1)),(some (18,false))⟩,⟨some 26,(.call (.k (.fn (.func 211) [] [])) [(.t 24),(.k (.bool false)),(.t 25)]),(some (18,false))⟩,⟨some 27,(.un .not (.t 26)),(some (18,false))⟩,⟨some 28,(.pick (.t 18) (.k (.bool true)) (.t 27)),no⟩]) (.cond (.t 28) (.seq
 (.reg [⟨some 4,(.mv (.k (.bool false))),no⟩]) .ret) .skip)))
 (.reg [⟨some 10,(.mv (.t 5)),no⟩,⟨some 11,(.bin .add (.t 10) (.k (.int .i64 1))),no⟩,⟨some 5,(.mv (.t 11)),no⟩])))))) (.seq
 (.reg [⟨some 29,(.mv (.t 0)),no⟩,⟨some 30,(.len false (.t 29)),no⟩,⟨some 31,(.bin .leq (.t 30) (.k (.int .i64 2))),no⟩,⟨some 4,(.mv (.t 31)),no⟩]) .ret)))⟩
theorem a208_ok:compFn Tryz.prog Tryz.f208=some a208:=by kernel_rfl
theorem pure_pat {h:Heap} {n id:Nat} {q:DPattern} (x:DPattern) (hv:h id=some ⟨true,4,[rAPattern q]⟩) (hid:id<n):Pure1 Tryz.prog 277 [] [.ptr id 0 0] h n (.agg (rAPattern x)) (.bool (x.Lst==q.Lst)):=by
  intro K hK
  refine acall_gc ?_
  refine acall_body Tryz.func277 a277_ok rfl (by simp [a277]) ?_
  have n1:¬id=n:=by omega
  simp [a277,hv,n1,rAPattern,scal,hK]
  intro j hj hj'
  omega
def metN (qs:List DPattern) (i:Nat):List Str:=(qs.take i).map (·.Lst)
theorem metN_succ {qs:List DPattern} {i:Nat} (hi:i<qs.length):metN qs (i+1)=metN qs i++[(qs[i]).Lst]:=by unfold metN; rw [List.take_succ_eq_append_getElem hi,List.map_append]; rfl
theorem metN_len {qs:List DPattern} {i:Nat} (hi:i≤qs.length):(metN qs i).length=i:=by simp [metN]; omega
theorem any_lst (l:List DPattern) (s:Str):(l.any fun x=>x.Lst==s)=hasS (l.map (·.Lst)) s:=by simp [hasS,List.any_map,Function.comp_def]
set_option maxRecDepth 20000 in
set_option maxHeartbeats 1000000 in
theorem k_patternsOk (f:DFunction) (qs:List DPattern):Holds Tryz.prog 224 [.agg (rAFunction f),.sl 4 (qs.map rAPattern)] (fun r=>r = .bool (patsFrom f.Params [] qs)):=by
  refine holds_of_run Tryz.func224 a224_ok rfl (by simp [a224]) ?_
  simp [a224,rAFunction]
  intro hl
  generalize hB:patsFrom f.Params [] qs=B
  refine rL_forO [1,2,7,8] 9 qs.length (fun i s h n=>0<n∧h 0=some ⟨true,4,[[.str f.Name,.sl 1 (strsR f.Params),.bool f.ListResult,.sl 2 (f.Pre.map rALin)]]⟩∧patsFrom f.Params (metN qs i) (qs.drop i)=B) hl (by simp) ⟨by simp,by simp,hB⟩ ?_ ?_
  · rintro i st h n R hi hg hk s9 hw ⟨hn,e0,hJ⟩ hR hret _
    simp at hk
    rw [List.drop_eq_getElem_cons hi] at hJ
    simp only [patsFrom] at hJ
    have z0:¬0=n:=by omega
    have z1:¬n=0:=by omega
    refine rC_cut [1,2,7,8,9] (fun s=>s 10 = .bool true) (by simp [hk,s9,hi]) ?_
    intro st1 hk1 s10
    simp at hk1
    refine rC_pass s10 (rC_seqI (rC_blkI ?_))
    refine rC_cutH [1,2,7,8,9] (fun s h' n'=>s 5 = .int .i64 i∧s 6 = .ptr n 0 0∧n'=n+1∧h' n=some ⟨true,4,[rAPattern qs[i]]⟩∧h' 0=some ⟨true,4,[[.str f.Name,.sl 1 (strsR f.Params),.bool f.ListResult,.sl 2 (f.Pre.map rALin)]]⟩) (by simp [hk,hk1,s9,hi,rAPattern,e0,z0]) ?_
    rintro st2 h2 n2 hk2 ⟨s5,s6,rfl,en,e0'⟩
    simp at hk2
    have ht:∀ l:List DPattern,List.take i (l.map rAPattern)=(l.take i).map rAPattern:=fun l=>by simp
    refine rC_seqI (rC_cut [1,2,6,7,8,9] (fun s=>s 32 = .bool (!listName (qs[i]).Lst || !hasS f.Params (qs[i]).Lst||hasS (metN qs i) (qs[i]).Lst)) ?_ ?_)
    · simp [hk,hk1,hk2,s9,hi,rAPattern,e0',en,z0,z1,s5,s6]
      first | refine callD_of (k_IsListName (qs[i]'hi).Lst) (by simp) ?_ | refine call_of (k_IsListName (qs[i]'hi).Lst) (by simp) ?_ | refine callD_of (k_IsListName (qs[i]'hi).Lst) rfl ?_ | refine call_of (k_IsListName (qs[i]'hi).Lst) rfl ?_
      rintro r rfl
      cases c1:listName (qs[i]).Lst
      · simp [hk,hk1,hk2,s9,hi,rAPattern,e0',en,z0,s5,s6]
      simp [hk,hk1,hk2,s9,hi,rAPattern,e0',en,z0,z1,s5,s6]
      first | refine callD_of (k_Contains f.Params (qs[i]'hi).Lst) (by simp) ?_ | refine call_of (k_Contains f.Params (qs[i]'hi).Lst) (by simp) ?_ | refine callD_of (k_Contains f.Params (qs[i]'hi).Lst) rfl ?_ | refine call_of (k_Contains f.Params (qs[i]'hi).Lst) rfl ?_
      rintro r rfl
      cases c2:hasS f.Params (qs[i]).Lst
      · simp [hk,hk1,hk2,s9,hi,rAPattern,e0',en,z0,s5,s6]
      simp [hk,hk1,hk2,s9,hi,e0',en,z0,z1,s5,s6,lowOf,asI]
      refine ⟨by omega,?_⟩
      rw [ht]
      refine acall_tContainsFunc (p:=fun x=>x.Lst==(qs[i]).Lst) (rowOf:=rAPattern) (eltOf:=fun x => .agg (rAPattern x)) Tryz.func276 a276_ok rfl Tryz.func298 a298_ok rfl (fun x=>by simp) (qs.take i)
        (fun x _=>pure_pat (q:=qs[i]) x en (Nat.lt_succ_self n)) ?_
      rw [any_lst,show List.map (·.Lst) (qs.take i)=metN qs i from rfl]
      simp [hk,hk1,hk2,e0',en]
    intro st3 hk3 s32
    simp at hk3
    generalize hcc:(!listName (qs[i]).Lst || !hasS f.Params (qs[i]).Lst||hasS (metN qs i) (qs[i]).Lst)=cc at *
    have hp:(metN qs (i+1))=metN qs i++[(qs[i]).Lst]:=metN_succ hi
    rw [←hp] at hJ
    cases cc
    case true=>
      have:(patB f.Params qs[i] && !hasS (metN qs i) (qs[i]).Lst)=false:=by
        unfold patB
        cases g1:listName (qs[i]).Lst <;> cases g2:hasS f.Params (qs[i]).Lst <;> cases g3:hasS (metN qs i) (qs[i]).Lst <;> rw [g1,g2,g3] at hcc <;> simp at hcc <;> simp
      rw [this,Bool.false_and] at hJ
      subst hJ
      simp [s32]
      refine hret _ _ _ ?_
      simp
    have hcc':listName (qs[i]).Lst=true∧hasS f.Params (qs[i]).Lst=true∧hasS (metN qs i) (qs[i]).Lst=false:=by
      cases g1:listName (qs[i]).Lst <;> cases g2:hasS f.Params (qs[i]).Lst <;> cases g3:hasS (metN qs i) (qs[i]).Lst <;> rw [g1,g2,g3] at hcc <;> simp at hcc <;> simp
    unfold patB at hJ
    rw [hcc'.1,hcc'.2.1,hcc'.2.2] at hJ
    simp only [Bool.true_and,Bool.not_false,Bool.and_true] at hJ
    simp [hk,hk1,hk2,hk3,s32,s6,en,rAPattern]
    cases c3:(qs[i]).Cons
    · rw [c3] at hJ
      simp only [Bool.false_eq_true,if_false] at hJ
      simp [hk,hk1,hk2,hk3,s6,en,rAPattern,c3]
      cases c4:((qs[i]).Head==[])
      · rw [c4,Bool.false_and,Bool.false_and] at hJ
        subst hJ
        have c4':¬(qs[i]).Head=[]:=by simpa using c4
        simp [hk,hk1,hk2,hk3,s6,en,rAPattern,c3,c4']
        refine hret _ _ _ ?_
        simp
      have c4':(qs[i]).Head=[]:=by simpa using c4
      cases c5:((qs[i]).Tail==[])
      · rw [c4,c5,Bool.and_false,Bool.false_and] at hJ
        subst hJ
        have c5':¬(qs[i]).Tail=[]:=by simpa using c5
        simp [hk,hk1,hk2,hk3,s6,en,rAPattern,c3,c4',c5']
        refine hret _ _ _ ?_
        simp
      · rw [c4,c5,Bool.true_and,Bool.true_and] at hJ
        have c5':(qs[i]).Tail=[]:=by simpa using c5
        simp [hk,hk1,hk2,hk3,s6,en,rAPattern,c3,c4',c5',s9,hw]
        exact hR _ _ _ (by simp [hk,hk1,hk2,hk3]) (by simp) ⟨by omega,by simp [e0'],hJ⟩
    · rw [c3] at hJ
      simp only [if_true] at hJ
      simp [hk,hk1,hk2,hk3,s6,en,rAPattern,c3]
      first | refine callD_of (k_isIntName (qs[i]'hi).Head) (by simp) ?_ | refine call_of (k_isIntName (qs[i]'hi).Head) (by simp) ?_ | refine callD_of (k_isIntName (qs[i]'hi).Head) rfl ?_ | refine call_of (k_isIntName (qs[i]'hi).Head) rfl ?_
      rintro r rfl
      cases c4:intName (qs[i]).Head
      · rw [c4,Bool.false_and,Bool.false_and] at hJ
        subst hJ
        simp
        refine hret _ _ _ ?_
        simp
      simp [hk,hk1,hk2,hk3,s6,en,rAPattern,c3]
      first | refine callD_of (k_IsListName (qs[i]'hi).Tail) (by simp) ?_ | refine call_of (k_IsListName (qs[i]'hi).Tail) (by simp) ?_ | refine callD_of (k_IsListName (qs[i]'hi).Tail) rfl ?_ | refine call_of (k_IsListName (qs[i]'hi).Tail) rfl ?_
      rintro r rfl
      cases c5:listName (qs[i]).Tail
      · rw [c4,c5,Bool.and_false,Bool.false_and] at hJ
        subst hJ
        simp
        refine hret _ _ _ ?_
        simp
      · rw [c4,c5,Bool.true_and,Bool.true_and] at hJ
        simp [hk,hk1,hk2,hk3,s9,hw]
        exact hR _ _ _ (by simp [hk,hk1,hk2,hk3]) (by simp) ⟨by omega,by simp [e0'],hJ⟩
  · rintro st h n R hk s9 ⟨hn,e0,hJ⟩ hret hX
    simp at hk
    rw [List.drop_eq_nil_of_le (by omega)] at hJ
    refine rC_cut [1,2,7,8,9] (fun s=>s 10 = .bool false) (by simp [hk,s9]) ?_
    intro st1 hk1 s10
    simp at hk1
    refine rC_stop s10 ?_
    simp
    refine hX _ _ _ _ ?_
    simp [←hJ,patsFrom]
theorem idx_lt (l:List Str) (s:Str):decide (idxFrom (fun x=>x==s) l 0<0) = !hasS l s:=by
  cases h:hasS l s
  · have:=idxFrom_neg (p:=fun x=>x==s) (l:=l) (i:=0) |>.2 h
    simp [this]
  · have:¬idxFrom (fun x=>x==s) l 0<0:=fun h'=>by have:=idxFrom_neg.1 h'; unfold hasS at h; rw [h] at this; cases this
    simp [this]
theorem idx_ge (l:List Str) (s:Str):decide (0≤idxFrom (fun x=>x==s) l 0)=hasS l s:=by
  have:=idxFrom_any (p:=fun x=>x==s) (l:=l) (i:=0)
  simp only [ge_iff_le] at this
  rw [this]; rfl
set_option maxRecDepth 20000 in
set_option maxHeartbeats 1000000 in
theorem ks_l10Patterns (f:DFunction) (qs:List DPattern) (hq:qs.length≤1048576):Holds Tryz.prog 207 [.agg (rAFunction f),.sl 4 (qs.map rAPattern)] (fun r=>r = .bool (patsFrom f.Params [] qs)):=by
  refine holds_of_run Tryz.func207 a207_ok rfl (by simp [a207]) ?_
  simp [a207,rAFunction]
  generalize hB:patsFrom f.Params [] qs=B
  refine rL_forO [1,2] 6 qs.length (fun i s h n=>0<n∧h 0=some ⟨true,4,[[.str f.Name,.sl 1 (strsR f.Params),.bool f.ListResult,.sl 2 (f.Pre.map rALin)]]⟩∧patsFrom f.Params (metN qs i) (qs.drop i)=B ∧
      ∃ id,0<id∧id<n∧s 5 = .ref id 0 i∧h id=some ⟨false,1,strsR (metN qs i)⟩) (by unfold LIM; omega) (by simp) ⟨by simp,by simp,hB,1,by omega,by omega,by simp,by simp [strsR,metN]⟩ ?_ ?_
  · rintro i st h n R hi hg hk s6 hw ⟨hn,e0,hJ,id,hid0,hidn,s5,eid⟩ hR hret _
    simp at hk
    rw [List.drop_eq_getElem_cons hi] at hJ
    simp only [patsFrom] at hJ
    have z0:¬0=n:=by omega
    have z1:¬n=0:=by omega
    have z2:¬id=n:=by omega
    have z3:¬n=id:=by omega
    have z4:¬id=0:=by omega
    have z5:¬0=id:=by omega
    have hlt:(metN qs i).length=i:=metN_len (by omega)
    refine rC_seqI (rC_cut [1,2,5,6] (fun s=>s 12 = .bool true) (by simp [hk,s6,hi]) ?_)
    intro st1 hk1 s12
    simp at hk1
    refine rC_pass1 s12 (rC_seqI (rC_blkI ?_))
    refine rC_cutH [1,2,5,6] (fun s h' n'=>s 7 = .ptr n 0 0∧n'=n+1∧h' n=some ⟨true,4,[rAPattern qs[i]]⟩∧h' 0=some ⟨true,4,[[.str f.Name,.sl 1 (strsR f.Params),.bool f.ListResult,.sl 2 (f.Pre.map rALin)]]⟩∧h' id=some ⟨false,1,strsR (metN qs i)⟩) (by simp [hk,hk1,s6,hi,rAPattern,e0,z0,z2,z3,eid]) ?_
    rintro st2 h2 n2 hk2 ⟨s7,rfl,en,e0',eid'⟩
    simp at hk2
    have ht:List.take i (strsR (metN qs i))=strsR (metN qs i):=List.take_of_length_le (by simp [hlt])
    refine rC_seqI (rC_cut [1,2,5,6,7] (fun s=>s 37 = .bool (!hasS f.Params (qs[i]).Lst || !listName (qs[i]).Lst||hasS (metN qs i) (qs[i]).Lst)) ?_ ?_)
    · simp [hk,hk1,hk2,s6,hi,rAPattern,e0',en,z0,z1,s7]
      first | refine callD_of (ks_IndexOf f.Params (qs[i]'hi).Lst) (by simp) ?_ | refine call_of (ks_IndexOf f.Params (qs[i]'hi).Lst) (by simp) ?_ | refine callD_of (ks_IndexOf f.Params (qs[i]'hi).Lst) rfl ?_ | refine call_of (ks_IndexOf f.Params (qs[i]'hi).Lst) rfl ?_
      rintro r rfl
      have e1:=idx_lt f.Params (qs[i]).Lst
      generalize idxFrom (fun x=>x==(qs[i]).Lst) f.Params 0=k1 at e1
      cases c1:hasS f.Params (qs[i]).Lst
      · rw [c1] at e1
        have:k1<0:=by simpa using e1
        simp [this]
      rw [c1] at e1
      have:¬k1<0:=by simpa using e1
      simp [hk,hk1,hk2,s6,hi,rAPattern,e0',en,z0,z1,s7,this]
      first | refine callD_of (ks_IsListName (qs[i]'hi).Lst) (by simp) ?_ | refine call_of (ks_IsListName (qs[i]'hi).Lst) (by simp) ?_ | refine callD_of (ks_IsListName (qs[i]'hi).Lst) rfl ?_ | refine call_of (ks_IsListName (qs[i]'hi).Lst) rfl ?_
      rintro r rfl
      cases c2:listName (qs[i]).Lst
      · simp
      simp [hk,hk1,hk2,s6,hi,rAPattern,e0',en,z0,z1,s7,s5,eid']
      first | refine callD_of (ks_IndexOf (metN qs i) (qs[i]'hi).Lst) (by simp [eid',ht,hlt]) ?_ | refine call_of (ks_IndexOf (metN qs i) (qs[i]'hi).Lst) (by simp [eid',ht,hlt]) ?_ | refine callD_of (ks_IndexOf (metN qs i) (qs[i]'hi).Lst) rfl ?_ | refine call_of (ks_IndexOf (metN qs i) (qs[i]'hi).Lst) rfl ?_
      rintro r rfl
      have e2:=idx_ge (metN qs i) (qs[i]).Lst
      generalize idxFrom (fun x=>x==(qs[i]).Lst) (metN qs i) 0=k2 at e2
      simp [hk,hk1,hk2,e0',en,e2]
    intro st3 hk3 s37
    simp at hk3
    generalize hcc:(!hasS f.Params (qs[i]).Lst || !listName (qs[i]).Lst||hasS (metN qs i) (qs[i]).Lst)=cc at *
    have hp:(metN qs (i+1))=metN qs i++[(qs[i]).Lst]:=metN_succ hi
    rw [←hp] at hJ
    cases cc
    case true=>
      have:(patB f.Params qs[i] && !hasS (metN qs i) (qs[i]).Lst)=false:=by
        unfold patB
        cases g1:listName (qs[i]).Lst <;> cases g2:hasS f.Params (qs[i]).Lst <;> cases g3:hasS (metN qs i) (qs[i]).Lst <;> rw [g1,g2,g3] at hcc <;> simp at hcc <;> simp
      rw [this,Bool.false_and] at hJ
      subst hJ
      simp [s37]
      refine hret _ _ _ ?_
      simp
    have hcc':listName (qs[i]).Lst=true∧hasS f.Params (qs[i]).Lst=true∧hasS (metN qs i) (qs[i]).Lst=false:=by
      cases g1:listName (qs[i]).Lst <;> cases g2:hasS f.Params (qs[i]).Lst <;> cases g3:hasS (metN qs i) (qs[i]).Lst <;> rw [g1,g2,g3] at hcc <;> simp at hcc <;> simp
    unfold patB at hJ
    rw [hcc'.1,hcc'.2.1,hcc'.2.2] at hJ
    simp only [Bool.true_and,Bool.not_false,Bool.and_true] at hJ
    refine rC_condF s37 ?_
    have y0:¬0=n+1:=by omega
    have y1:¬n=n+1:=by omega
    have y2:¬id=n+1:=by omega
    have y3:¬n+1=id:=by omega
    have y4:¬n+1=0:=by omega
    have y5:¬n+2=0:=by omega
    have y6:¬n=n+2:=by omega
    have y7:¬0=n+2:=by omega
    have y8:¬n+1=n:=by omega
    simp only [kont_seq]
    refine rC_cutH [1,2,6,7] (fun s h' n'=>n'=n+3∧s 5 = .ref (n+2) 0 (i+1)∧h' n=some ⟨true,4,[rAPattern qs[i]]⟩∧h' 0=some ⟨true,4,[[.str f.Name,.sl 1 (strsR f.Params),.bool f.ListResult,.sl 2 (f.Pre.map rALin)]]⟩∧h' (n+2)=some ⟨false,1,strsR (metN qs (i+1))⟩) ?_ ?_
    · simp [hk,hk1,hk2,hk3,s7,en,rAPattern,e0',s5,eid',z0,z1,z2,z3,z4,z5,y0,y1,y2,y3,y4,y5,y6,y7,y8,ht,hlt,metN_succ hi]
      refine ⟨by unfold LIM; omega,?_⟩
      simp [strsR]
    rintro st4 h4 n4 hk4 ⟨rfl,s5',en',e0'',eid''⟩
    simp at hk4
    refine rC_cut [1,2,5,6,7] (fun s=>s 71 = .bool (!(if (qs[i]).Cons then intName (qs[i]).Head&&listName (qs[i]).Tail else (qs[i]).Head==[]&&(qs[i]).Tail==[]))) ?_ ?_
    · cases c3:(qs[i]).Cons
      · cases c4:((qs[i]).Head==[])
        · have c4':¬(qs[i]).Head=[]:=by simpa using c4
          have c4e:(qs[i]).Head.isEmpty=false:=by simpa using c4'
          simp [hk,hk1,hk2,hk3,hk4,s7,en',rAPattern,c3,c4,c4',c4e]
        have c4':(qs[i]).Head=[]:=by simpa using c4
        cases c5:((qs[i]).Tail==[])
        · have c5':¬(qs[i]).Tail=[]:=by simpa using c5
          have c5e:(qs[i]).Tail.isEmpty=false:=by simpa using c5'
          simp [hk,hk1,hk2,hk3,hk4,s7,en',rAPattern,c3,c4',c5,c5',c5e]
        · have c5':(qs[i]).Tail=[]:=by simpa using c5
          simp [hk,hk1,hk2,hk3,hk4,s7,en',rAPattern,c3,c4',c5']
      · simp [hk,hk1,hk2,hk3,hk4,s7,en',rAPattern,c3]
        first | refine callD_of (ks_l10IntName (qs[i]'hi).Head) (by simp) ?_ | refine call_of (ks_l10IntName (qs[i]'hi).Head) (by simp) ?_ | refine callD_of (ks_l10IntName (qs[i]'hi).Head) rfl ?_ | refine call_of (ks_l10IntName (qs[i]'hi).Head) rfl ?_
        rintro r rfl
        cases c4:intName (qs[i]).Head
        · simp [hk,hk1,hk2,hk3,hk4,s7,en',rAPattern,c3]
        simp [hk,hk1,hk2,hk3,hk4,s7,en',rAPattern,c3]
        first | refine callD_of (ks_IsListName (qs[i]'hi).Tail) (by simp) ?_ | refine call_of (ks_IsListName (qs[i]'hi).Tail) (by simp) ?_ | refine callD_of (ks_IsListName (qs[i]'hi).Tail) rfl ?_ | refine call_of (ks_IsListName (qs[i]'hi).Tail) rfl ?_
        rintro r rfl
        cases c5:listName (qs[i]).Tail
        · simp [hk,hk1,hk2,hk3,hk4,s7,en',rAPattern,c3]
        · simp [hk,hk1,hk2,hk3,hk4,s7,en',rAPattern,c3]
    intro st5 hk5 s71
    simp at hk5
    generalize (if (qs[i]).Cons then intName (qs[i]).Head&&listName (qs[i]).Tail else (qs[i]).Head==[]&&(qs[i]).Tail==[])=D at *
    cases D
    · rw [Bool.false_and] at hJ
      subst hJ
      simp [s71]
      refine hret _ _ _ ?_
      simp
    · rw [Bool.true_and] at hJ
      simp [hk,hk1,hk2,hk3,hk4,hk5,s71,s6,hw]
      exact hR _ _ _ (by simp [hk,hk1,hk2,hk3,hk4,hk5]) (by simp) ⟨by omega,by simp [e0''],hJ,n+2,by omega,by omega,by simp [hk5,s5'],by simp [eid'']⟩
  · rintro st h n R hk s6 ⟨hn,e0,hJ,_⟩ hret hX
    simp at hk
    rw [List.drop_eq_nil_of_le (by omega)] at hJ
    refine rC_seqI (rC_cut [1,2,6] (fun s=>s 12 = .bool false) (by simp [hk,s6]) ?_)
    intro st1 hk1 s12
    simp at hk1
    refine rC_stop1 s12 ?_
    simp
    refine hX _ _ _ _ ?_
    simp [←hJ,patsFrom]
theorem wSum1 {list:List DSum} {i:Nat} (hi:i<list.length) (hw:wSumS list≤1048576):wArg ⟨false,[list[i]],[]⟩≤1048576:=by
  have h1:=wL_mem (w:=wSum) (List.getElem_mem hi)
  unfold wSumS at hw
  have h2:1+wSum list[i]≤wL wSum list:=by
    have h3:=sum_mem wSum list (List.getElem_mem hi)
    unfold wL; omega
  unfold wArg wSumS wL
  simp
  omega
theorem guard_arg (s:DSum) (scope:List Str):argOk ⟨false,[s],[]⟩ false scope=guardOk scope s:=by
  unfold argOk guardOk
  rw [okArg_guard,allS_snames,argN0_guard]
  simp
theorem ks_l10Guards (list:List DSum) (scope:List Str) (hw:wSumS list≤1048576):Holds Tryz.prog 208 [.sl 2 (list.map rASum),.sl 1 (strsR scope)] (fun r=>r = .bool (list.all (guardOk scope)&&decide (list.length≤2))):=by
  refine holds_of_lim Tryz.func208 rfl rfl fun hl => ?_
  simp at hl
  refine holds_of_run Tryz.func208 a208_ok rfl (by simp [a208]) ?_
  simp [a208]
  generalize hB:list.all (guardOk scope)=B
  refine rL_forS [0,1] 5 list.length (fun i _=>(list.drop i).all (guardOk scope)=B) hl.1 (by simp) (by simpa using hB) ?_ ?_
  · rintro i st h R hi hg hk s5 hw5 hJ hh hR hret _
    simp at hk
    rw [List.drop_eq_getElem_cons hi,List.all_cons] at hJ
    simp [hk,s5,hi,hg]
    intro _
    first | refine callD_of (ks_IsValidSum (list[i]'hi)) (by simp) ?_ | refine call_of (ks_IsValidSum (list[i]'hi)) (by simp) ?_ | refine callD_of (ks_IsValidSum (list[i]'hi)) rfl ?_ | refine call_of (ks_IsValidSum (list[i]'hi)) rfl ?_
    rintro r rfl
    cases hc:okSum list[i]
    · have:guardOk scope list[i]=false:=by unfold guardOk; rw [hc]; rfl
      rw [this,Bool.false_and] at hJ
      subst hJ
      simp
      refine hret _ _ _ ?_
      simp
    simp [hk,s5,hi,hg,hw5,lowOf,asI]
    refine ⟨by omega,by omega,?_⟩
    have ht:(List.take (i+1) (list.map rASum)).drop i=[rASum list[i]]:=by
      rw [List.take_succ_eq_append_getElem (by simpa using hi)]
      rw [List.drop_left' (by simp; omega)]
      simp
    have he:((i:Int)+1).toNat=i+1:=by omega
    have hb:bwl [.agg [.bool false,.sl 2 [rASum list[i]],.str []],.bool false,.sl 1 (strsR scope)] h=some [.agg (rAArg ⟨false,[list[i]],[]⟩),.bool false,.sl 1 (strsR scope)]:=by simp [rAArg]
    simp only [he,ht]
    first | refine callD_of (ks_l10Arg ⟨false,[list[i]'hi],[]⟩ false scope (wSum1 hi hw)) (by simp [rAArg,he,ht]) ?_ | refine call_of (ks_l10Arg ⟨false,[list[i]'hi],[]⟩ false scope (wSum1 hi hw)) (by simp [rAArg,he,ht]) ?_ | refine callD_of (ks_l10Arg ⟨false,[list[i]'hi],[]⟩ false scope (wSum1 hi hw)) rfl ?_ | refine call_of (ks_l10Arg ⟨false,[list[i]'hi],[]⟩ false scope (wSum1 hi hw)) rfl ?_
    rintro r rfl
    rw [guard_arg]
    cases hc2:guardOk scope list[i]
    · rw [hc2,Bool.false_and] at hJ
      subst hJ
      simp
      refine hret _ _ _ ?_
      simp
    · rw [hc2,Bool.true_and] at hJ
      simp [hk,s5,hw5]
      exact hR _ (by simp [hk]) (by simp) hJ
  · rintro st h R hk s5 hJ hh _ hX
    simp at hk
    rw [List.drop_eq_nil_of_le (by omega)] at hJ
    simp [hk,s5]
    intro _
    refine hX _ _ ?_
    simp at hJ
    subst hJ
    simp [hk]
    omega
end Go.Proofs.YtilcageplifbgaaGreat
