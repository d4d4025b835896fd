/- R1-R10 -/
import Derived.Laws.AppendOwn
import Derived.Below
import Derived.Calls
import Derived.KernelRfl
namespace Go.Proofs.Ytoclolkigjbcgaa
set_option linter.all false
open Go Go.RowKit
def LIM:Nat:=140737488355328
inductive AV where
 | undef
 | int (k:IntKind) (n:Int)
 | bool (b:Bool)
 | str (s:List UInt8)
 | nil (sz:Nat)
 | nilp
 | ptr (id row col:Nat)
 | fptr (row:List AV) (col:Nat)
 | ref (id off len:Nat)
 | sl (sz:Nat) (rows:List (List AV))
 | us (sz:Nat) (rows:List (List AV))
 | fn (f:Fn) (first cap:List AV)
 | mp (id:Nat)
 | agg (cells:List AV)
 | tup (vs:List AV)
 deriving Inhabited
inductive Loc where
 | none
 | at (b sz cap:Nat)
def Own (L:Nat→Option Loc) (b:Nat):Prop:=∃ id sz cap,L id=some (.at b sz cap)
def cellsAt (w:World) (b o:Nat) (vals:List Value):Prop:=∀ j v,vals[j]? = some v→w.cell? ⟨b,o+j,Option.none⟩=some v
def one (vals:List Value):Prop:=∀ v∈vals,v.oneCell'=true
def RefAt (l:Loc) (off len:Nat) (v:Value):Prop:=
 len≤LIM∧match l with
 | .none=>off=0∧len=0∧v = .slice Option.none 0 0
 | .at b sz cap=>∃ A,v = .slice A len (cap - off)∧(0<len∨off=0→A=some ⟨b,off*sz,Option.none⟩)∧off+len≤cap∧0<sz
def PtrAt (l:Loc) (r c:Nat) (v:Value):Prop:=
 match l with
 | .none=>False
 | .at b sz _=>v = .pointer (some ⟨b,r*sz+c,Option.none⟩)∧0<sz
def MapAt (l:Loc) (v:Value):Prop:=
 match l with
 | .none=>False
 | .at b sz _=>v = .map (some b)∧sz=0
mutual
def VR (w:World) (L:Nat→Option Loc):(N:Nat)→AV→Value→List Nat→Prop
 | _,.undef,_,S=>S=[]
 | _,.int k n,v,S=>v = .int k n∧S=[]
 | _,.bool b,v,S=>v = .bool b∧S=[]
 | _,.str s,v,S=>(∃ b:ByteArray,v = .string b∧b.data.toList=s∧s.length≤LIM)∧S=[]
 | _,.nil _,v,S=>v = .slice Option.none 0 0∧S=[]
 | _,.nilp,v,S=>v = .pointer Option.none∧S=[]
 | N,.ptr id r c,v,S=>(id<N∧v.oneCell'=true∧∀ l,L id=some l→PtrAt l r c v)∧S=[]
 | _,.fptr row c,v,S=>(∃ b o vals,v = .pointer (some ⟨b,o+c,Option.none⟩)∧¬Own L b∧b<w.heap.size∧cellsAt w b o vals∧one vals∧VRl w L 0 row vals [])∧S=[]
 | N,.ref id off len,v,S=>(id<N∧v.oneCell'=true∧∀ l,L id=some l→RefAt l off len v)∧S=[]
 | _,.sl sz rows,v,S=>(∃ A cap vals,v = .slice A rows.length cap∧(rows.length≤LIM∧rows.length≤cap)∧VRr w L 0 rows vals [] ∧
     (rows=[]∨∃ b o,A=some ⟨b,o,Option.none⟩∧¬Own L b∧b<w.heap.size∧(∀ r∈rows,r.length=sz)∧cellsAt w b o vals∧one vals))∧S=[]
 | _,.us sz rows,v,S=>rows.length≤LIM∧((v = .slice Option.none 0 0∧rows=[]∧S=[]) ∨
     ∃ b cap cur e vals rest S',v = .slice (some ⟨b,0,Option.none⟩) rows.length cap∧S=b::S'∧¬Own L b∧w.heap[b]? = some (.cells cur e (0,0)) ∧
       cur.toList=vals++rest∧cur.size=cap*sz∧0<sz∧rows.length≤cap∧cap≤maxLen∧(∀ r∈rows,r.length=sz)∧one vals∧VRr w L 0 rows vals S')
 | N,.fn f fi ca,v,S=>(∃ x y,v = .func f x y∧VRl w L N fi x.toList []∧VRl w L N ca y.toList [])∧S=[]
 | N,.mp id,v,S=>(id<N∧v.oneCell'=true∧∀ l,L id=some l→MapAt l v)∧S=[]
 | N,.agg cs,v,S=>∃ vs,v = .agg vs∧VRl w L N cs vs.toList S
 | N,.tup cs,v,S=>∃ vs,v = .tuple vs∧VRl w L N cs vs.toList S
def VRl (w:World) (L:Nat→Option Loc):(N:Nat)→List AV→List Value→List Nat→Prop
 | _,[],vs,S=>vs=[]∧S=[]
 | N,a::as,vs,S=>∃ v vs' S1 S2,vs=v::vs'∧S=S1++S2∧VR w L N a v S1∧VRl w L N as vs' S2
def VRr (w:World) (L:Nat→Option Loc):(N:Nat)→List (List AV)→List Value→List Nat→Prop
 | _,[],vs,S=>vs=[]∧S=[]
 | N,r::rs,vs,S=>∃ vs1 vs2 S1 S2,vs=vs1++vs2∧S=S1++S2∧VRl w L N r vs1 S1∧VRr w L N rs vs2 S2
end
section lists
variable {w:World} {L:Nat→Option Loc} {N:Nat}
theorem VRl_append {as bs:List AV} : ∀ {vs:List Value} {S:List Nat},VRl w L N (as++bs) vs S ↔
   ∃ vs1 vs2 S1 S2,vs=vs1++vs2∧S=S1++S2∧VRl w L N as vs1 S1∧VRl w L N bs vs2 S2:=by
 induction as with
 | nil=>
   intro vs S
   constructor
   · intro h; exact ⟨[],vs,[],S,rfl,rfl,⟨rfl,rfl⟩,h⟩
   · rintro ⟨vs1,vs2,S1,S2,rfl,rfl,⟨rfl,rfl⟩,h⟩; exact h
 | cons a as ih=>
   intro vs S
   simp only [List.cons_append,VRl]
   constructor
   · rintro ⟨v,vs',S1,S2,rfl,rfl,h1,h2⟩
     obtain ⟨vs1,vs2,T1,T2,rfl,rfl,h3,h4⟩:=ih.1 h2
     exact ⟨v::vs1,vs2,S1++T1,T2,rfl,by simp,⟨v,vs1,S1,T1,rfl,rfl,h1,h3⟩,h4⟩
   · rintro ⟨vs1,vs2,S1,S2,rfl,rfl,⟨v,vs',T1,T2,rfl,rfl,h1,h2⟩,h3⟩
     exact ⟨v,vs'++vs2,T1,T2++S2,rfl,by simp,h1,ih.2 ⟨vs',vs2,T2,S2,rfl,rfl,h2,h3⟩⟩
theorem VRr_iff {rows:List (List AV)} : ∀ {vs:List Value} {S:List Nat},VRr w L N rows vs S↔VRl w L N rows.flatten vs S:=by
 induction rows with
 | nil=>intro vs S; simp [VRr,VRl]
 | cons r rs ih=>
   intro vs S
   simp only [VRr,List.flatten_cons,VRl_append,ih]
theorem VRl_length {as:List AV} : ∀ {vs:List Value} {S:List Nat},VRl w L N as vs S→vs.length=as.length:=by
 induction as with
 | nil=>rintro vs S ⟨rfl,_⟩; rfl
 | cons a as ih=>rintro vs S ⟨v,vs',S1,S2,rfl,_,_,h⟩; simp [ih h]
theorem VRl_split {as:List AV} : ∀ {vs:List Value} {S:List Nat} {i:Nat} {a:AV},VRl w L N as vs S→as[i]? = some a →
   ∃ v S1 S2 S3,vs[i]? = some v∧S=S1++(S2++S3)∧VR w L N a v S2∧∀ a' v' S',VR w L N a' v' S'→VRl w L N (as.set i a') (vs.set i v') (S1++(S'++S3)):=by
 induction as with
 | nil=>intro vs S i a _ h; simp at h
 | cons b as ih=>
   rintro vs S i a ⟨v,vs',S1,S2,rfl,rfl,h1,h2⟩ hi
   cases i with
   | zero=>
     simp only [List.getElem?_cons_zero,Option.some.injEq] at hi
     subst hi
     exact ⟨v,[],S1,S2,rfl,rfl,h1,fun a' v' S' h=>⟨v',vs',S',S2,rfl,rfl,h,h2⟩⟩
   | succ i=>
     simp only [List.getElem?_cons_succ] at hi
     obtain ⟨u,T1,T2,T3,g1,rfl,g3,g4⟩:=ih h2 hi
     exact ⟨u,S1++T1,T2,T3,by simpa using g1,by simp,g3,fun a' v' S' h=>⟨v,_,S1,_,rfl,by simp,h1,g4 a' v' S' h⟩⟩
theorem VRl_get {as:List AV} {vs:List Value} {S:List Nat} {i:Nat} {a:AV} (h:VRl w L N as vs S) (hi:as[i]? = some a) :
   ∃ v S',vs[i]? = some v∧VR w L N a v S'∧∀ b∈S',b∈S:=by
 obtain ⟨v,S1,S2,S3,g1,rfl,g3,_⟩:=VRl_split h hi
 exact ⟨v,S2,g1,g3,fun b hb=>by simp [hb]⟩
theorem VRl_get_nil {as:List AV} {vs:List Value} {i:Nat} {a:AV} (h:VRl w L N as vs []) (hi:as[i]? = some a) :
   ∃ v,vs[i]? = some v∧VR w L N a v []:=by
 obtain ⟨v,S',g1,g2,g3⟩:=VRl_get h hi
 have:S'=[]:=List.eq_nil_iff_forall_not_mem.2 fun b hb=>by simpa using g3 b hb
 subst this
 exact ⟨v,g1,g2⟩
theorem VRl_nil_append {as bs:List AV} {vs:List Value} : VRl w L N (as++bs) vs [] ↔
   ∃ vs1 vs2,vs=vs1++vs2∧VRl w L N as vs1 []∧VRl w L N bs vs2 []:=by
 rw [VRl_append]
 constructor
 · rintro ⟨vs1,vs2,S1,S2,rfl,hS,h1,h2⟩
   obtain ⟨rfl,rfl⟩:=List.append_eq_nil_iff.1 hS.symm
   exact ⟨vs1,vs2,rfl,h1,h2⟩
 · rintro ⟨vs1,vs2,rfl,h1,h2⟩
   exact ⟨vs1,vs2,[],[],rfl,rfl,h1,h2⟩
theorem VRl_nil_cons {a:AV} {as:List AV} {vs:List Value} : VRl w L N (a::as) vs [] ↔
   ∃ v vs',vs=v::vs'∧VR w L N a v []∧VRl w L N as vs' []:=by
 simp only [VRl]
 constructor
 · rintro ⟨v,vs',S1,S2,rfl,hS,h1,h2⟩
   obtain ⟨rfl,rfl⟩:=List.append_eq_nil_iff.1 hS.symm
   exact ⟨v,vs',rfl,h1,h2⟩
 · rintro ⟨v,vs',rfl,h1,h2⟩
   exact ⟨v,vs',[],[],rfl,rfl,h1,h2⟩
end lists
structure Ext (w:World) (L:Nat→Option Loc) (N:Nat) (w':World) (L':Nat→Option Loc) (N':Nat):Prop where
 n:N≤N'
 old:∀ id l,id<N→L' id=some l→L id=some l
 size:w.heap.size≤w'.heap.size
 block:∀ b,b<w.heap.size→¬Own L b→w'.heap[b]? = w.heap[b]? ∧ ¬Own L' b
theorem cellsAt_of_block {w w':World} {b o:Nat} {vals:List Value} (h:w'.heap[b]? = w.heap[b]?) (hc:cellsAt w b o vals):cellsAt w' b o vals:=by
 intro j v hj
 rw [World.cell?_of_block (w:=w) (w':=w') (a:=⟨b,o+j,Option.none⟩) h]
 exact hc j v hj
theorem lt_of_heap {w:World} {b:Nat} {x:Obj} (h:w.heap[b]? = some x):b<w.heap.size:=(Array.getElem?_eq_some_iff.1 h).1
theorem Ext.zero {w:World} {L:Nat→Option Loc} {N:Nat} {w':World} {L':Nat→Option Loc} {N':Nat} (e:Ext w L N w' L' N'):Ext w L 0 w' L' 0:=
 ⟨Nat.le_refl _,fun _ _ h _=>absurd h (Nat.not_lt_zero _),e.size,e.block⟩
section ext
variable {w:World} {L:Nat→Option Loc} {w':World} {L':Nat→Option Loc}
mutual
theorem VR_ext:∀ {N N':Nat} (_e:Ext w L N w' L' N') (a:AV) (v:Value) (S:List Nat),VR w L N a v S→VR w' L' N' a v S
 | _,_,_,.undef,_,_,h=>by simpa only [VR] using h
 | _,_,e,.int ..,_,_,h=>by simpa only [VR] using h
 | _,_,e,.bool _,_,_,h=>by simpa only [VR] using h
 | _,_,e,.str _,_,_,h=>by simpa only [VR] using h
 | _,_,e,.nil _,_,_,h=>by simpa only [VR] using h
 | _,_,e,.nilp,_,_,h=>by simpa only [VR] using h
 | _,_,e,.mp id,v,S,h=>by
   simp only [VR] at h ⊢
   exact ⟨⟨Nat.lt_of_lt_of_le h.1.1 e.n,h.1.2.1,fun l hl=>h.1.2.2 l (e.old id l h.1.1 hl)⟩,h.2⟩
 | _,_,e,.ptr id r c,v,S,h=>by
   simp only [VR] at h ⊢
   exact ⟨⟨Nat.lt_of_lt_of_le h.1.1 e.n,h.1.2.1,fun l hl=>h.1.2.2 l (e.old id l h.1.1 hl)⟩,h.2⟩
 | _,_,e,.ref id r c,v,S,h=>by
   simp only [VR] at h ⊢
   exact ⟨⟨Nat.lt_of_lt_of_le h.1.1 e.n,h.1.2.1,fun l hl=>h.1.2.2 l (e.old id l h.1.1 hl)⟩,h.2⟩
 | _,_,e,.fptr row c,v,S,h=>by
   simp only [VR] at h ⊢
   obtain ⟨⟨b,o,vals,hv,ho,hb,hc,h1,hr⟩,hS⟩:=h
   exact ⟨⟨b,o,vals,hv,(e.block b hb ho).2,Nat.lt_of_lt_of_le hb e.size,cellsAt_of_block (e.block b hb ho).1 hc,h1,VRl_ext e.zero row vals [] hr⟩,hS⟩
 | _,_,e,.sl sz rows,v,S,h=>by
   simp only [VR] at h ⊢
   obtain ⟨⟨A,cap,vals,hv,hl,hr,hb⟩,hS⟩:=h
   refine ⟨⟨A,cap,vals,hv,hl,VRr_ext e.zero rows vals [] hr,?_⟩,hS⟩
   rcases hb with hb | ⟨b,o,hA,ho,hb,hs,hc,h1⟩
   · exact .inl hb
   · exact   .inr ⟨b,o,hA,(e.block b hb ho).2,Nat.lt_of_lt_of_le hb e.size,hs,cellsAt_of_block (e.block b hb ho).1 hc,h1⟩
 | _,_,e,.us sz rows,v,S,h=>by
   simp only [VR] at h ⊢
   obtain ⟨hl,h⟩:=h
   refine ⟨hl,?_⟩
   rcases h with h | ⟨b,cap,cur,t,vals,rest,S',hv,hS,ho,hb,h1,h2,h3,h4,h5,h6,h6',h7⟩
   · exact .inl h
   · have hlt:=lt_of_heap hb
     exact .inr ⟨b,cap,cur,t,vals,rest,S',hv,hS,(e.block b hlt ho).2,(e.block b hlt ho).1.trans hb,h1,h2,h3,h4,h5,h6,h6',VRr_ext e.zero rows vals S' h7⟩
 | _,_,e,.fn f fi ca,v,S,h=>by
   simp only [VR] at h ⊢
   obtain ⟨⟨x,y,hv,h1,h2⟩,hS⟩:=h
   exact ⟨⟨x,y,hv,VRl_ext e fi _ _ h1,VRl_ext e ca _ _ h2⟩,hS⟩
 | _,_,e,.agg cs,v,S,h=>by
   simp only [VR] at h ⊢
   obtain ⟨vs,hv,h1⟩:=h
   exact ⟨vs,hv,VRl_ext e cs _ _ h1⟩
 | _,_,e,.tup cs,v,S,h=>by
   simp only [VR] at h ⊢
   obtain ⟨vs,hv,h1⟩:=h
   exact ⟨vs,hv,VRl_ext e cs _ _ h1⟩
theorem VRl_ext:∀ {N N':Nat} (_e:Ext w L N w' L' N') (as:List AV) (vs:List Value) (S:List Nat),VRl w L N as vs S→VRl w' L' N' as vs S
 | _,_,e,[],_,_,h=>by simpa only [VRl] using h
 | _,_,e,a::as,vs,S,h=>by
   simp only [VRl] at h ⊢
   obtain ⟨v,vs',S1,S2,h1,h2,h3,h4⟩:=h
   exact ⟨v,vs',S1,S2,h1,h2,VR_ext e a v S1 h3,VRl_ext e as vs' S2 h4⟩
theorem VRr_ext:∀ {N N':Nat} (_e:Ext w L N w' L' N') (rs:List (List AV)) (vs:List Value) (S:List Nat),VRr w L N rs vs S→VRr w' L' N' rs vs S
 | _,_,e,[],_,_,h=>by simpa only [VRr] using h
 | _,_,e,r::rs,vs,S,h=>by
   simp only [VRr] at h ⊢
   obtain ⟨v1,v2,S1,S2,h1,h2,h3,h4⟩:=h
   exact ⟨v1,v2,S1,S2,h1,h2,VRl_ext e r v1 S1 h3,VRr_ext e rs v2 S2 h4⟩
end
theorem Ext.refl (w:World) (L:Nat→Option Loc) (N:Nat):Ext w L N w L N:=⟨Nat.le_refl _,fun _ _ _ h=>h,Nat.le_refl _,fun _ _ h=>⟨rfl,h⟩⟩
end ext
mutual
def dr:AV→AV
 | .us sz rows => .sl sz (drr rows)
 | .agg cs => .agg (drl cs)
 | .tup cs => .tup (drl cs)
 | a=>a
def drl:List AV→List AV
 | []=>[]
 | a::as=>dr a::drl as
def drr:List (List AV)→List (List AV)
 | []=>[]
 | r::rs=>drl r::drr rs
end
theorem drl_eq (as:List AV):drl as=as.map dr:=by induction as with | nil=>rfl | cons a as ih=>simp [drl,ih]
theorem drr_eq (rs:List (List AV)):drr rs=rs.map drl:=by induction rs with | nil=>rfl | cons a as ih=>simp [drr,ih]
section dr
variable {w:World} {L:Nat→Option Loc}
mutual
theorem VR_dr:∀ {N:Nat} (a:AV) (v:Value) (S:List Nat),VR w L N a v S→VR w L N (dr a) v []
 | _,.undef,_,_,h=>by simp only [VR,dr]
 | _,.int ..,_,_,h=>by simp only [VR,dr] at h ⊢; exact ⟨h.1,trivial⟩
 | _,.bool _,_,_,h=>by simp only [VR,dr] at h ⊢; exact ⟨h.1,trivial⟩
 | _,.str _,_,_,h=>by simp only [VR,dr] at h ⊢; exact ⟨h.1,trivial⟩
 | _,.nil _,_,_,h=>by simp only [VR,dr] at h ⊢; exact ⟨h.1,trivial⟩
 | _,.nilp,_,_,h=>by simp only [VR,dr] at h ⊢; exact ⟨h.1,trivial⟩
 | _,.mp _,_,_,h=>by simp only [VR,dr] at h ⊢; exact ⟨h.1,trivial⟩
 | _,.ptr ..,_,_,h=>by simp only [VR,dr] at h ⊢; exact ⟨h.1,trivial⟩
 | _,.ref ..,_,_,h=>by simp only [VR,dr] at h ⊢; exact ⟨h.1,trivial⟩
 | _,.fptr ..,_,_,h=>by simp only [VR,dr] at h ⊢; exact ⟨h.1,trivial⟩
 | _,.sl ..,_,_,h=>by simp only [VR,dr] at h ⊢; exact ⟨h.1,trivial⟩
 | _,.fn ..,_,_,h=>by simp only [VR,dr] at h ⊢; exact ⟨h.1,trivial⟩
 | _,.us sz rows,v,S,h=>by
   simp only [VR,dr] at h ⊢
   obtain ⟨hl,h⟩:=h
   have hlen:(drr rows).length=rows.length:=by rw [drr_eq]; simp
   refine ⟨?_,trivial⟩
   rw [hlen]
   rcases h with ⟨rfl,rfl,_⟩ | ⟨b,cap,cur,t,vals,rest,S',rfl,hS,ho,hb,h1,h2,h3,h4,h5,h6,h6',h7⟩
   · exact ⟨Option.none,0,[],rfl,⟨hl,Nat.le_refl _⟩,⟨rfl,rfl⟩,.inl rfl⟩
   · refine ⟨_,cap,vals,rfl,⟨hl,h4⟩,VRr_dr rows vals S' h7,   .inr ⟨b,0,rfl,ho,lt_of_heap hb,?_,?_,h6'⟩⟩
     · intro r hr
       rw [drr_eq] at hr
       obtain ⟨r',hr',rfl⟩:=List.mem_map.1 hr
       rw [drl_eq,List.length_map]; exact h6 r' hr'
     · intro j v hj
       rw [cell_of_row w b _ cur t (0,0) hb,←Array.getElem?_toList,h1,Nat.zero_add,List.getElem?_append_left (List.getElem?_eq_some_iff.1 hj).1]
       exact hj
 | _,.agg cs,v,S,h=>by
   simp only [VR,dr] at h ⊢
   obtain ⟨vs,hv,h1⟩:=h
   exact ⟨vs,hv,VRl_dr cs _ _ h1⟩
 | _,.tup cs,v,S,h=>by
   simp only [VR,dr] at h ⊢
   obtain ⟨vs,hv,h1⟩:=h
   exact ⟨vs,hv,VRl_dr cs _ _ h1⟩
theorem VRl_dr:∀ {N:Nat} (as:List AV) (vs:List Value) (S:List Nat),VRl w L N as vs S→VRl w L N (drl as) vs []
 | _,[],_,_,h=>by simp only [VRl,drl] at h ⊢; exact ⟨h.1,trivial⟩
 | _,a::as,vs,S,h=>by
   simp only [VRl,drl] at h ⊢
   obtain ⟨v,vs',S1,S2,h1,h2,h3,h4⟩:=h
   exact ⟨v,vs',[],[],h1,rfl,VR_dr a v S1 h3,VRl_dr as vs' S2 h4⟩
theorem VRr_dr:∀ {N:Nat} (rs:List (List AV)) (vs:List Value) (S:List Nat),VRr w L N rs vs S→VRr w L N (drr rs) vs []
 | _,[],_,_,h=>by simp only [VRr,drr] at h ⊢; exact ⟨h.1,trivial⟩
 | _,r::rs,vs,S,h=>by
   simp only [VRr,drr] at h ⊢
   obtain ⟨v1,v2,S1,S2,h1,h2,h3,h4⟩:=h
   exact ⟨v1,v2,[],[],h1,rfl,VRl_dr r v1 S1 h3,VRr_dr rs v2 S2 h4⟩
end
end dr
open Go Go.RowKit
structure Blk where
 box:Bool
 sz:Nat
 rows:List (List AV)
abbrev Heap:=Nat→Option Blk
def upd {α:Type} (f:Nat→α) (k:Nat) (v:α):Nat→α:=fun i=>if i=k then v else f i
inductive Opd where
 | t (n:Nat)
 | k (a:AV)
def ev (s:Nat→AV):Opd→AV
 | .t n=>s n
 | .k a=>a
def cellsOf:AV→List AV
 | .agg cs=>cs
 | a=>[a]
def isCell:AV→Bool
 | .agg _ | .tup _ | .undef=>false
 | _=>true
mutual
def dt:AV→Heap→Option (AV×Heap)
 | .ref id off len,h=>match h id with
   | some B=>if off=0∧B.box=false∧len≤B.rows.length then some (.us B.sz (B.rows.take len),upd h id Option.none) else Option.none
   | Option.none=>Option.none
 | .nil sz,h=>some (.us sz [],h)
 | .agg cs,h=>(dtl cs h).map fun p=>(.agg p.1,p.2)
 | .tup cs,h=>(dtl cs h).map fun p=>(.tup p.1,p.2)
 | .ptr ..,_ | .mp _,_ | .undef,_=>Option.none
 | .fn f [] [],h=>some (.fn f [] [],h)
 | .fn _ (_::_) _,_ | .fn _ _ (_::_),_=>Option.none
 | a,h=>some (a,h)
def dtl:List AV→Heap→Option (List AV×Heap)
 | [],h=>some ([],h)
 | a::as,h=>(dt a h).bind fun p=>(dtl as p.2).map fun q=>(p.1::q.1,q.2)
end
mutual
def col:AV→List (Nat×List (List AV))
 | .us sz rows=>[(sz,rows)]
 | .agg cs=>coll cs
 | .tup cs=>coll cs
 | _=>[]
def coll:List AV→List (Nat×List (List AV))
 | []=>[]
 | a::as=>col a++coll as
end
mutual
def sub:AV→Nat→AV
 | .us _ rows,n => .ref n 0 rows.length
 | .agg cs,n => .agg (subl cs n)
 | .tup cs,n => .tup (subl cs n)
 | a,_=>a
def subl:List AV→Nat→List AV
 | [],_=>[]
 | a::as,n=>sub a n::subl as (n+(col a).length)
end
def addAll (h:Heap) (n:Nat):List (Nat×List (List AV))→Heap
 | []=>h
 | r::rs=>addAll (upd h n (some ⟨false,r.1,r.2⟩)) (n+1) rs
mutual
def bw:AV→Heap→Option AV
 | .ref id off len,h=>match h id with
   | some B=>if B.box=false∧off+len≤B.rows.length then some (.sl B.sz (drr ((B.rows.drop off).take len))) else Option.none
   | Option.none=>Option.none
 | .nil sz,_=>some (.sl sz [])
 | .agg cs,h=>(bwl cs h).map .agg
 | .tup cs,h=>(bwl cs h).map .tup
 | .us sz rows,_=>some (.sl sz (drr rows))
 | .ptr ..,_ | .fptr ..,_ | .undef,_ | .mp _,_=>Option.none
 | .fn f [] [],_=>some (.fn f [] [])
 | .fn f fi ca,h=>(bwl fi h).bind fun x=>(bwl ca h).map fun y => .fn f x y
 | a,_=>some a
def bwl:List AV→Heap→Option (List AV)
 | [],_=>some []
 | a::as,h=>(bw a h).bind fun x=>(bwl as h).map fun y=>x::y
end
open Go Go.RowKit
def ERel (w:World) (L:Nat→Option Loc) (N:Nat):List (List AV)→List MapEntry→Prop
 | [],es=>es=[]
 | r::rs,es=>∃ e es' k a,es=e::es'∧r=[.str k,a]∧VR w L N (.str k) e.key []∧VR w L N a e.val []∧ERel w L N rs es'
theorem ERel.ext {w w':World} {L L':Nat→Option Loc} {N N':Nat} (e:Ext w L N w' L' N'):∀ {rs:List (List AV)} {es:List MapEntry},ERel w L N rs es→ERel w' L' N' rs es
 | [],_,h=>h
 | _::_,_,⟨x,es',k,a,h1,h2,h3,h4,h5⟩=>⟨x,es',k,a,h1,h2,VR_ext e _ _ _ h3,VR_ext e _ _ _ h4,h5.ext e⟩
def CRel (w:World) (L:Nat→Option Loc) (N:Nat) (B:Blk) (b sz cap:Nat) (S:List Nat):Prop:=
 ∃ cur t vals rest,w.heap[b]? = some (.cells cur t (0,0))∧cur.toList=vals++rest∧cur.size=cap*sz∧0<sz∧cap≤maxLen ∧
     B.rows.length≤cap∧B.rows.length≤LIM∧(∀ r∈B.rows,r.length=sz)∧one vals∧VRr w L (if B.box then N else 0) B.rows vals S
def BRel (w:World) (L:Nat→Option Loc) (N:Nat) (B:Blk) (l:Loc) (S:List Nat):Prop:=
 match l with
 | .none=>B.rows=[]∧S=[]
 | .at b sz cap=>sz=B.sz∧(B.box=true→S=[])∧(0<sz→CRel w L N B b sz cap S)∧(sz=0→B.box=true∧∃ es clock,w.heap[b]? = some (.map es clock)∧ERel w L N B.rows es.toList)
theorem BRel.cells {w:World} {L:Nat→Option Loc} {N:Nat} {B:Blk} {b sz cap:Nat} {S:List Nat} (h:BRel w L N B (.at b sz cap) S) (hp:0<sz) :
   sz=B.sz∧(B.box=true→S=[])∧∃ cur t vals rest,w.heap[b]? = some (.cells cur t (0,0))∧cur.toList=vals++rest∧cur.size=cap*sz∧0<sz∧cap≤maxLen ∧
     B.rows.length≤cap∧B.rows.length≤LIM∧(∀ r∈B.rows,r.length=sz)∧one vals∧VRr w L (if B.box then N else 0) B.rows vals S:=⟨h.1,h.2.1,h.2.2.1 hp⟩
theorem BRel.of {w:World} {L:Nat→Option Loc} {N:Nat} {B:Blk} {b sz cap:Nat} {S:List Nat}
   (h:sz=B.sz∧(B.box=true→S=[])∧∃ cur t vals rest,w.heap[b]? = some (.cells cur t (0,0))∧cur.toList=vals++rest∧cur.size=cap*sz∧0<sz∧cap≤maxLen ∧
     B.rows.length≤cap∧B.rows.length≤LIM∧(∀ r∈B.rows,r.length=sz)∧one vals∧VRr w L (if B.box then N else 0) B.rows vals S):BRel w L N B (.at b sz cap) S:=
 ⟨h.1,h.2.1,fun _=>h.2.2,fun h0=>by obtain ⟨_,_,_,_,_,_,_,_,_,_,hp,_⟩:=h; omega⟩
theorem BRel.pos {w:World} {L:Nat→Option Loc} {N:Nat} {B:Blk} {b sz cap:Nat} {S:List Nat} (h:BRel w L N B (.at b sz cap) S) (hbox:B.box=false):0<sz:=by
 rcases Nat.eq_zero_or_pos sz with h0 | h0
 · have:=(h.2.2.2 h0).1; rw [hbox] at this; cases this
 · exact h0
structure HRel (base:Nat) (w0 w:World) (L:Nat→Option Loc) (N:Nat) (F:Nat→List Nat) (E:List Nat) (h:Heap):Prop where
 below:Below base w0 w
 bsz:base≤w.heap.size
 dom:∀ id,h id=Option.none→L id=Option.none
 mod:∀ id,L id=Option.none→h id=Option.none
 lt:∀ id l,L id=some l→id<N
 inj:∀ id id' b sz cap sz' cap',L id=some (.at b sz cap)→L id'=some (.at b sz' cap')→id=id'
 lo:∀ b,Own L b→base≤b
 blk:∀ id B l,h id=some B→L id=some l→BRel w L N B l (F id)
 fp:∀ id b,b∈F id→¬Own L b∧base≤b∧b<w.heap.size
 ep:∀ b,b∈E→¬Own L b∧base≤b∧b<w.heap.size
 nd:∀ id,(F id).Nodup
 ne:E.Nodup
 dj:∀ id id' b,b∈F id→b∈F id'→id=id'
 de:∀ id b,b∈F id→b∉E
theorem Own.upd_none {L:Nat→Option Loc} {id b:Nat} (h:Own (upd L id Option.none) b):Own L b:=by
 obtain ⟨i,sz,cap,hi⟩:=h
 simp only [upd] at hi
 split at hi
 · cases hi
 · exact ⟨i,sz,cap,hi⟩
theorem upd_same {α:Type} (f:Nat→α) (k:Nat) (v:α):upd f k v k=v:=by simp [upd]
theorem upd_other {α:Type} (f:Nat→α) (k:Nat) (v:α) (i:Nat) (h:i≠k):upd f k v i=f i:=by simp [upd,h]
theorem upd_none_some {L:Nat→Option Loc} {id i:Nat} {l:Loc} (h:upd L id Option.none i=some l):i≠id∧L i=some l:=by
 simp only [upd] at h
 split at h
 · cases h
 · exact ⟨by assumption,h⟩
theorem Ext.kill (w:World) (L:Nat→Option Loc) (N id:Nat):Ext w L N w (upd L id Option.none) N:=
 ⟨Nat.le_refl _,fun _ _ _ h=>(upd_none_some h).2,Nat.le_refl _,fun _ _ h=>⟨rfl,fun h'=>h h'.upd_none⟩⟩
theorem Ext.trans {w w' w'':World} {L L' L'':Nat→Option Loc} {N N' N'':Nat} (h:Ext w L N w' L' N') (k:Ext w' L' N' w'' L'' N''):Ext w L N w'' L'' N'':=
 ⟨Nat.le_trans h.n k.n,fun id l hid hl=>h.old id l hid (k.old id l (Nat.lt_of_lt_of_le hid h.n) hl),Nat.le_trans h.size k.size,
   fun b hb ho=>let ⟨h1,h2⟩:=h.block b hb ho; let ⟨k1,k2⟩:=k.block b (Nat.lt_of_lt_of_le hb h.size) h2; ⟨k1.trans h1,k2⟩⟩
theorem BRel.ext {w w':World} {L L':Nat→Option Loc} {N N':Nat} {B:Blk} {l:Loc} {S:List Nat} (e:Ext w L N w' L' N')
   (hb:∀ b sz cap,l = .at b sz cap→w'.heap[b]? = w.heap[b]?) (h:BRel w L N B l S):BRel w' L' N' B l S:=by
 cases l with
 | none=>exact h
 | «at» b sz cap=>
   obtain ⟨h0,h0',hc,hm⟩:=h
   refine ⟨h0,h0',fun hp => ?_,fun hz => ?_⟩
   · obtain ⟨cur,t,vals,rest,h1,h2,h3,h4,h5,h6,h7,h8,h9,h10⟩:=hc hp
     exact ⟨cur,t,vals,rest,(hb b sz cap rfl).trans h1,h2,h3,h4,h5,h6,h7,h8,h9,by cases hB:B.box <;> simp only [hB,if_true,if_false,Bool.false_eq_true] at h10 ⊢ <;> first | exact VRr_ext e _ _ _ h10 | exact VRr_ext e.zero _ _ _ h10⟩
   · obtain ⟨h1,es,clock,h2,h3⟩:=hm hz
     exact ⟨h1,es,clock,(hb b sz cap rfl).trans h2,h3.ext e⟩
section
variable {base:Nat} {w0 w:World} {L:Nat→Option Loc} {N:Nat} {F:Nat→List Nat} {E:List Nat} {h:Heap}
theorem HRel.own_lt (H:HRel base w0 w L N F E h) {b:Nat} (ho:Own L b):b<w.heap.size:=by
 obtain ⟨id,sz,cap,hl⟩:=ho
 cases hh:h id with
 | none=>rw [H.dom id hh] at hl; cases hl
 | some B=>
   obtain ⟨_,_,hc,hm⟩:=H.blk id B _ hh hl
   rcases Nat.eq_zero_or_pos sz with h0 | h0
   · obtain ⟨_,es,clock,h1,_⟩:=hm h0
     exact lt_of_heap h1
   · obtain ⟨cur,t,vals,rest,h1,_⟩:=hc h0
     exact lt_of_heap h1
theorem VRr_take {rows:List (List AV)} {vals:List Value} {S:List Nat} (n:Nat) (hr:VRr w L N rows vals S) :
   ∃ v1 v2 S1 S2,vals=v1++v2∧S=S1++S2∧VRr w L N (rows.take n) v1 S1∧VRr w L N (rows.drop n) v2 S2:=by
 rw [VRr_iff] at hr
 rw [←List.take_append_drop n rows,List.flatten_append,VRl_append] at hr
 obtain ⟨v1,v2,S1,S2,e1,e2,h1,h2⟩:=hr
 exact ⟨v1,v2,S1,S2,e1,e2,VRr_iff.2 h1,VRr_iff.2 h2⟩
theorem HRel.give (H:HRel base w0 w L N F E h) {id len:Nat} {B:Blk} {v:Value} (hB:h id=some B) (hbox:B.box=false) (hlen:len≤B.rows.length)
   (hv:VR w L N (.ref id 0 len) v []) :
   ∃ S,HRel base w0 w (upd L id Option.none) N (upd F id []) (S++E) (upd h id Option.none)∧VR w (upd L id Option.none) 0 (.us B.sz (B.rows.take len)) v S:=by
 have e:=Ext.kill w L N id
 cases hl:L id with
 | none=>rw [H.mod id hl] at hB; cases hB
 | some l=>
   simp only [VR] at hv
   have hr:=hv.1.2.2 l hl
   have hbr:=H.blk id B l hB hl
   have hlenT:(B.rows.take len).length=len:=by simp [hlen]
   have common:∀ S:List Nat,(∀ b∈S,¬Own (upd L id Option.none) b∧base≤b∧b<w.heap.size)→S.Nodup→(∀ b∈S,b∉E)→(∀ i b,i≠id→b∈F i→b∉S) →
       HRel base w0 w (upd L id Option.none) N (upd F id []) (S++E) (upd h id Option.none):=by
     intro S s1 s2 s3 s4
     refine ⟨H.below,H.bsz,?_,?_,?_,?_,?_,?_,?_,?_,?_,?_,?_,?_⟩
     · intro i hi; simp only [upd] at hi ⊢; split <;> rename_i hx <;> simp only [hx,if_true,if_false] at hi ⊢; exact H.dom i hi
     · intro i hi; simp only [upd] at hi ⊢; split <;> rename_i hx <;> simp only [hx,if_true,if_false] at hi ⊢; exact H.mod i hi
     · intro i l' hi; exact H.lt i l' (upd_none_some hi).2
     · intro i i' b sz cap sz' cap' hi hi'; exact H.inj i i' b sz cap sz' cap' (upd_none_some hi).2 (upd_none_some hi').2
     · intro b ho; exact H.lo b ho.upd_none
     · intro i B' l' hi hl'
       obtain ⟨hne,hl''⟩:=upd_none_some hl'
       rw [upd_other _ _ _ _ hne] at hi
       rw [upd_other _ _ _ _ hne]
       exact (H.blk i B' l' hi hl'').ext e fun _ _ _ _=>rfl
     · intro i b hb
       by_cases hne:i=id
       · subst hne; rw [upd_same] at hb; cases hb
       · rw [upd_other _ _ _ _ hne] at hb
         have:=H.fp i b hb
         exact ⟨fun h'=>this.1 h'.upd_none,this.2⟩
     · intro b hb
       rcases List.mem_append.1 hb with hb | hb
       · exact s1 b hb
       · have:=H.ep b hb
         exact ⟨fun h'=>this.1 h'.upd_none,this.2⟩
     · intro i
       by_cases hne:i=id
       · subst hne; rw [upd_same]; exact List.nodup_nil
       · rw [upd_other _ _ _ _ hne]; exact H.nd i
     · exact List.nodup_append.2 ⟨s2,H.ne,fun a ha b hb hab=>s3 a ha (hab ▸ hb)⟩
     · intro i i' b hb hb'
       by_cases hne:i=id
       · subst hne; rw [upd_same] at hb; cases hb
       · by_cases hne':i'=id
         · subst hne'; rw [upd_same] at hb'; cases hb'
         · rw [upd_other _ _ _ _ hne] at hb; rw [upd_other _ _ _ _ hne'] at hb'; exact H.dj i i' b hb hb'
     · intro i b hb
       by_cases hne:i=id
       · subst hne; rw [upd_same] at hb; cases hb
       · rw [upd_other _ _ _ _ hne] at hb
         intro hb'
         rcases List.mem_append.1 hb' with hb' | hb'
         · exact s4 i b hne hb hb'
         · exact H.de i b hb hb'
   cases l with
   | none=>
     obtain ⟨hrows,hF⟩:=hbr
     obtain ⟨_,_,hl0,rfl⟩:=hr
     refine ⟨[],common [] (by simp) List.nodup_nil (by simp) (by simp),?_⟩
     simp only [VR,hrows,List.take_nil]
     exact ⟨Nat.zero_le _,.inl ⟨trivial,trivial,trivial⟩⟩
   | «at» b sz cap=>
     obtain ⟨rfl,_,cur,t,vals,rest,h1,h2,h3,h4,h5,h6,h7,h8,h9,h10⟩:=hbr.cells (hbr.pos hbox)
     obtain ⟨hlim,A,rfl,hA,hcap⟩:=hr
     have hA:=hA (.inr rfl)
     subst hA
     simp only [hbox,if_false,Bool.false_eq_true] at h10
     obtain ⟨v1,v2,S1,S2,rfl,hS,g1,g2⟩:=VRr_take len (VRr_ext e.zero _ _ _ h10)
     have hbown:Own L b:=⟨id,_,cap,hl⟩
     have hnb:¬Own (upd L id Option.none) b:=by
       rintro ⟨i,sz',cap',hi⟩
       obtain ⟨hne,hi⟩:=upd_none_some hi
       exact hne (H.inj i id b _ _ _ _ hi hl)
     have hbF:∀ i,b∉F i:=fun i hb=>(H.fp i b hb).1 hbown
     refine ⟨b::S1,common (b::S1) ?_ ?_ ?_ ?_,?_⟩
     · intro c hc
       rcases List.mem_cons.1 hc with rfl | hc
       · exact ⟨hnb,H.lo _ hbown,lt_of_heap h1⟩
       · have:=H.fp id c (by rw [hS]; simp [hc])
         exact ⟨fun h'=>this.1 h'.upd_none,this.2⟩
     · refine List.nodup_cons.2 ⟨fun hc=>hbF id (by rw [hS]; simp [hc]),?_⟩
       have:=H.nd id; rw [hS] at this; exact (List.nodup_append.1 this).1
     · intro c hc
       rcases List.mem_cons.1 hc with rfl | hc
       · exact fun hE=>(H.ep _ hE).1 hbown
       · exact H.de id c (by rw [hS]; simp [hc])
     · intro i c hne hc hc'
       rcases List.mem_cons.1 hc' with rfl | hc'
       · exact hbF i hc
       · exact hne (H.dj i id c hc (by rw [hS]; simp [hc']))
     · simp only [VR,hlenT]
       refine ⟨hlim,.inr ⟨b,cap,cur,t,v1,v2++rest,S1,by simp,rfl,hnb,h1,by rw [h2,List.append_assoc],h3,h4,by omega,h5,fun r hr=>h8 r (List.mem_of_mem_take hr),fun v hv=>h9 v (by simp [hv]),g1⟩⟩
theorem HRel.eperm (H:HRel base w0 w L N F E h) {E':List Nat} (hp:E.Perm E'):HRel base w0 w L N F E' h:=
 ⟨H.below,H.bsz,H.dom,H.mod,H.lt,H.inj,H.lo,H.blk,H.fp,fun b hb=>H.ep b (hp.mem_iff.2 hb),H.nd,hp.nodup_iff.1 H.ne,H.dj,fun id b hb h'=>H.de id b hb (hp.mem_iff.2 h')⟩
end
mutual
theorem dt_sound {base:Nat} {w0 w:World} {N:Nat} : ∀ (a:AV) {L:Nat→Option Loc} {F:Nat→List Nat} {E:List Nat} {h:Heap} {v:Value} {a':AV} {h':Heap},
   HRel base w0 w L N F E h→VR w L N a v []→dt a h=some (a',h') →
   ∃ L' F' S,HRel base w0 w L' N F' (S++E) h'∧VR w L' 0 a' v S∧Ext w L N w L' N
 | .undef,L,F,E,h,v,a',h',H,_,hd=>by simp [dt] at hd
 | .int ..,L,F,E,h,v,a',h',H,hv,hd=>by
   simp only [dt,Option.some.injEq,Prod.mk.injEq] at hd; obtain ⟨rfl,rfl⟩:=hd
   exact ⟨L,F,[],H,by simpa only [VR] using hv,Ext.refl _ _ _⟩
 | .bool _,L,F,E,h,v,a',h',H,hv,hd=>by
   simp only [dt,Option.some.injEq,Prod.mk.injEq] at hd; obtain ⟨rfl,rfl⟩:=hd
   exact ⟨L,F,[],H,by simpa only [VR] using hv,Ext.refl _ _ _⟩
 | .str _,L,F,E,h,v,a',h',H,hv,hd=>by
   simp only [dt,Option.some.injEq,Prod.mk.injEq] at hd; obtain ⟨rfl,rfl⟩:=hd
   exact ⟨L,F,[],H,by simpa only [VR] using hv,Ext.refl _ _ _⟩
 | .nilp,L,F,E,h,v,a',h',H,hv,hd=>by
   simp only [dt,Option.some.injEq,Prod.mk.injEq] at hd; obtain ⟨rfl,rfl⟩:=hd
   exact ⟨L,F,[],H,by simpa only [VR] using hv,Ext.refl _ _ _⟩
 | .nil _,L,F,E,h,v,a',h',H,hv,hd=>by
   simp only [dt,Option.some.injEq,Prod.mk.injEq] at hd; obtain ⟨rfl,rfl⟩:=hd
   refine ⟨L,F,[],H,?_,Ext.refl _ _ _⟩
   simp only [VR] at hv ⊢
   exact ⟨Nat.zero_le _,.inl ⟨hv.1,trivial,trivial⟩⟩
 | .ptr ..,L,F,E,h,v,a',h',H,_,hd=>by simp [dt] at hd
 | .mp _,L,F,E,h,v,a',h',H,_,hd=>by simp [dt] at hd
 | .fptr ..,L,F,E,h,v,a',h',H,hv,hd=>by
   simp only [dt,Option.some.injEq,Prod.mk.injEq] at hd; obtain ⟨rfl,rfl⟩:=hd
   exact ⟨L,F,[],H,by simpa only [VR] using hv,Ext.refl _ _ _⟩
 | .sl ..,L,F,E,h,v,a',h',H,hv,hd=>by
   simp only [dt,Option.some.injEq,Prod.mk.injEq] at hd; obtain ⟨rfl,rfl⟩:=hd
   exact ⟨L,F,[],H,by simpa only [VR] using hv,Ext.refl _ _ _⟩
 | .us ..,L,F,E,h,v,a',h',H,hv,hd=>by
   simp only [dt,Option.some.injEq,Prod.mk.injEq] at hd; obtain ⟨rfl,rfl⟩:=hd
   exact ⟨L,F,[],H,by simpa only [VR] using hv,Ext.refl _ _ _⟩
 | .fn f fi ca,L,F,E,h,v,a',h',H,hv,hd=>by
   cases fi with
   | cons=>simp [dt] at hd
   | nil=>
     cases ca with
     | cons=>simp [dt] at hd
     | nil=>
       simp only [dt,Option.some.injEq,Prod.mk.injEq] at hd; obtain ⟨rfl,rfl⟩:=hd
       exact ⟨L,F,[],H,by simpa only [VR,VRl] using hv,Ext.refl _ _ _⟩
 | .ref id off len,L,F,E,h,v,a',h',H,hv,hd=>by
   simp only [dt] at hd
   split at hd
   · rename_i B hB
     split at hd
     · rename_i hc
       obtain ⟨rfl,hbox,hlen⟩:=hc
       simp only [Option.some.injEq,Prod.mk.injEq] at hd; obtain ⟨rfl,rfl⟩:=hd
       obtain ⟨S,h1,h2⟩:=H.give hB hbox hlen hv
       exact ⟨_,_,S,h1,h2,Ext.kill _ _ _ _⟩
     · cases hd
   · cases hd
 | .agg cs,L,F,E,h,v,a',h',H,hv,hd=>by
   simp only [dt,Option.map_eq_some_iff] at hd
   obtain ⟨⟨cs',h''⟩,hd,he⟩:=hd
   simp only [Prod.mk.injEq] at he; obtain ⟨rfl,rfl⟩:=he
   simp only [VR] at hv
   obtain ⟨vs,rfl,hv⟩:=hv
   obtain ⟨L',F',S,h1,h2,h3⟩:=dtl_sound cs H hv hd
   exact ⟨L',F',S,h1,by simp only [VR]; exact ⟨vs,rfl,h2⟩,h3⟩
 | .tup cs,L,F,E,h,v,a',h',H,hv,hd=>by
   simp only [dt,Option.map_eq_some_iff] at hd
   obtain ⟨⟨cs',h''⟩,hd,he⟩:=hd
   simp only [Prod.mk.injEq] at he; obtain ⟨rfl,rfl⟩:=he
   simp only [VR] at hv
   obtain ⟨vs,rfl,hv⟩:=hv
   obtain ⟨L',F',S,h1,h2,h3⟩:=dtl_sound cs H hv hd
   exact ⟨L',F',S,h1,by simp only [VR]; exact ⟨vs,rfl,h2⟩,h3⟩
theorem dtl_sound {base:Nat} {w0 w:World} {N:Nat} : ∀ (as:List AV) {L:Nat→Option Loc} {F:Nat→List Nat} {E:List Nat} {h:Heap} {vs:List Value} {as':List AV} {h':Heap},
   HRel base w0 w L N F E h→VRl w L N as vs []→dtl as h=some (as',h') →
   ∃ L' F' S,HRel base w0 w L' N F' (S++E) h'∧VRl w L' 0 as' vs S∧Ext w L N w L' N
 | [],L,F,E,h,vs,as',h',H,hv,hd=>by
   simp only [dtl,Option.some.injEq,Prod.mk.injEq] at hd; obtain ⟨rfl,rfl⟩:=hd
   exact ⟨L,F,[],H,by simpa only [VRl] using hv,Ext.refl _ _ _⟩
 | a::as,L,F,E,h,vs,as',h',H,hv,hd=>by
   simp only [dtl,Option.bind_eq_some_iff,Option.map_eq_some_iff] at hd
   obtain ⟨⟨a1,h1⟩,hd1,⟨as2,h2⟩,hd2,he⟩:=hd
   simp only [Prod.mk.injEq] at he; obtain ⟨rfl,rfl⟩:=he
   obtain ⟨v,vs',rfl,hv1,hv2⟩:=VRl_nil_cons.1 hv
   obtain ⟨L1,F1,S1,g1,g2,g3⟩:=dt_sound a H hv1 hd1
   obtain ⟨L2,F2,S2,k1,k2,k3⟩:=dtl_sound as g1 (VRl_ext g3 _ _ _ hv2) hd2
   refine ⟨L2,F2,S1++S2,k1.eperm ?_,?_,g3.trans k3⟩
   · rw [←List.append_assoc]; exact List.Perm.append_right _ List.perm_append_comm
   · simp only [VRl]; exact ⟨v,vs',S1,S2,rfl,rfl,VR_ext k3.zero _ _ _ g2,k2⟩
end
open Go Go.RowKit
mutual
def clean:AV→Bool
 | .int .. | .bool _ | .str _ | .nilp=>true
 | .us _ rows=>cleanr rows
 | .agg cs=>cleanl cs
 | .tup cs=>cleanl cs
 | _=>false
def cleanl:List AV→Bool
 | []=>true
 | a::as=>clean a&&cleanl as
def cleanr:List (List AV)→Bool
 | []=>true
 | r::rs=>cleanl r&&cleanr rs
end
theorem cleanr_iff (rs:List (List AV)):cleanr rs=rs.all cleanl:=by induction rs with | nil=>rfl | cons a as ih=>simp [cleanr,ih]
def Lo:Nat→Option Loc:=fun _=>Option.none
theorem not_own_Lo (b:Nat):¬Own Lo b:=by rintro ⟨_,_,_,h⟩; cases h
section
variable {w:World} {L L':Nat→Option Loc}
mutual
theorem VR_env:∀ {N N':Nat} (a:AV) (v:Value) (S:List Nat),clean a=true→(∀ b∈S,¬Own L' b)→VR w L N a v S→VR w L' N' a v S
 | _,_,.undef,_,_,c,_,_=>by simp [clean] at c
 | _,_,.int ..,_,_,_,_,h=>by simpa only [VR] using h
 | _,_,.bool _,_,_,_,_,h=>by simpa only [VR] using h
 | _,_,.str _,_,_,_,_,h=>by simpa only [VR] using h
 | _,_,.nilp,_,_,_,_,h=>by simpa only [VR] using h
 | _,_,.nil _,_,_,c,_,_=>by simp [clean] at c
 | _,_,.ptr ..,_,_,c,_,_=>by simp [clean] at c
 | _,_,.fptr ..,_,_,c,_,_=>by simp [clean] at c
 | _,_,.ref ..,_,_,c,_,_=>by simp [clean] at c
 | _,_,.sl ..,_,_,c,_,_=>by simp [clean] at c
 | _,_,.fn ..,_,_,c,_,_=>by simp [clean] at c
 | _,_,.mp ..,_,_,c,_,_=>by simp [clean] at c
 | _,_,.us sz rows,v,S,c,hS,h=>by
   simp only [VR,clean] at c h ⊢
   obtain ⟨hl,h⟩:=h
   refine ⟨hl,?_⟩
   rcases h with h | ⟨b,cap,cur,t,vals,rest,S',hv,rfl,ho,hb,h1,h2,h3,h4,h5,h6,h6',h7⟩
   · exact .inl h
   · exact .inr ⟨b,cap,cur,t,vals,rest,S',hv,rfl,hS b (by simp),hb,h1,h2,h3,h4,h5,h6,h6',VRr_env rows vals S' c (fun b hb=>hS b (by simp [hb])) h7⟩
 | _,_,.agg cs,v,S,c,hS,h=>by
   simp only [VR,clean] at c h ⊢
   obtain ⟨vs,hv,h1⟩:=h
   exact ⟨vs,hv,VRl_env cs _ _ c hS h1⟩
 | _,_,.tup cs,v,S,c,hS,h=>by
   simp only [VR,clean] at c h ⊢
   obtain ⟨vs,hv,h1⟩:=h
   exact ⟨vs,hv,VRl_env cs _ _ c hS h1⟩
theorem VRl_env:∀ {N N':Nat} (as:List AV) (vs:List Value) (S:List Nat),cleanl as=true→(∀ b∈S,¬Own L' b)→VRl w L N as vs S→VRl w L' N' as vs S
 | _,_,[],_,_,_,_,h=>by simpa only [VRl] using h
 | _,_,a::as,vs,S,c,hS,h=>by
   simp only [cleanl,Bool.and_eq_true] at c
   simp only [VRl] at h ⊢
   obtain ⟨v,vs',S1,S2,h1,rfl,h3,h4⟩:=h
   exact ⟨v,vs',S1,S2,h1,rfl,VR_env a v S1 c.1 (fun b hb=>hS b (by simp [hb])) h3,VRl_env as vs' S2 c.2 (fun b hb=>hS b (by simp [hb])) h4⟩
theorem VRr_env:∀ {N N':Nat} (rs:List (List AV)) (vs:List Value) (S:List Nat),cleanr rs=true→(∀ b∈S,¬Own L' b)→VRr w L N rs vs S→VRr w L' N' rs vs S
 | _,_,[],_,_,_,_,h=>by simpa only [VRr] using h
 | _,_,r::rs,vs,S,c,hS,h=>by
   simp only [cleanr,Bool.and_eq_true] at c
   simp only [VRr] at h ⊢
   obtain ⟨v1,v2,S1,S2,h1,rfl,h3,h4⟩:=h
   exact ⟨v1,v2,S1,S2,h1,rfl,VRl_env r v1 S1 c.1 (fun b hb=>hS b (by simp [hb])) h3,VRr_env rs v2 S2 c.2 (fun b hb=>hS b (by simp [hb])) h4⟩
end
mutual
theorem VR_base:∀ (a:AV) (v:Value) (S:List Nat),VR w L 0 a v S→VR w Lo 0 a v S
 | .undef,_,_,h=>by simpa only [VR] using h
 | .int ..,_,_,h=>by simpa only [VR] using h
 | .bool _,_,_,h=>by simpa only [VR] using h
 | .str _,_,_,h=>by simpa only [VR] using h
 | .nilp,_,_,h=>by simpa only [VR] using h
 | .nil _,_,_,h=>by simpa only [VR] using h
 | .ptr ..,_,_,h=>by simp only [VR] at h; exact absurd h.1.1 (Nat.not_lt_zero _)
 | .ref ..,_,_,h=>by simp only [VR] at h; exact absurd h.1.1 (Nat.not_lt_zero _)
 | .mp ..,_,_,h=>by simp only [VR] at h; exact absurd h.1.1 (Nat.not_lt_zero _)
 | .fptr row c,v,S,h=>by
   simp only [VR] at h ⊢
   obtain ⟨⟨b,o,vals,hv,ho,hb,hc,h1,hr⟩,hS⟩:=h
   exact ⟨⟨b,o,vals,hv,not_own_Lo b,hb,hc,h1,VRl_base row vals [] hr⟩,hS⟩
 | .sl sz rows,v,S,h=>by
   simp only [VR] at h ⊢
   obtain ⟨⟨A,cap,vals,hv,hl,hr,hb⟩,hS⟩:=h
   refine ⟨⟨A,cap,vals,hv,hl,VRr_base rows vals [] hr,?_⟩,hS⟩
   rcases hb with hb | ⟨b,o,hA,ho,hb,hs,hc,h1⟩
   · exact .inl hb
   · exact   .inr ⟨b,o,hA,not_own_Lo b,hb,hs,hc,h1⟩
 | .us sz rows,v,S,h=>by
   simp only [VR] at h ⊢
   obtain ⟨hl,h⟩:=h
   refine ⟨hl,?_⟩
   rcases h with h | ⟨b,cap,cur,t,vals,rest,S',hv,hS,ho,hb,h1,h2,h3,h4,h5,h6,h6',h7⟩
   · exact .inl h
   · exact .inr ⟨b,cap,cur,t,vals,rest,S',hv,hS,not_own_Lo b,hb,h1,h2,h3,h4,h5,h6,h6',VRr_base rows vals S' h7⟩
 | .fn f fi ca,v,S,h=>by
   simp only [VR] at h ⊢
   obtain ⟨⟨x,y,hv,h1,h2⟩,hS⟩:=h
   exact ⟨⟨x,y,hv,VRl_base fi _ _ h1,VRl_base ca _ _ h2⟩,hS⟩
 | .agg cs,v,S,h=>by
   simp only [VR] at h ⊢
   obtain ⟨vs,hv,h1⟩:=h
   exact ⟨vs,hv,VRl_base cs _ _ h1⟩
 | .tup cs,v,S,h=>by
   simp only [VR] at h ⊢
   obtain ⟨vs,hv,h1⟩:=h
   exact ⟨vs,hv,VRl_base cs _ _ h1⟩
theorem VRl_base:∀ (as:List AV) (vs:List Value) (S:List Nat),VRl w L 0 as vs S→VRl w Lo 0 as vs S
 | [],_,_,h=>by simpa only [VRl] using h
 | a::as,vs,S,h=>by
   simp only [VRl] at h ⊢
   obtain ⟨v,vs',S1,S2,h1,h2,h3,h4⟩:=h
   exact ⟨v,vs',S1,S2,h1,h2,VR_base a v S1 h3,VRl_base as vs' S2 h4⟩
theorem VRr_base:∀ (rs:List (List AV)) (vs:List Value) (S:List Nat),VRr w L 0 rs vs S→VRr w Lo 0 rs vs S
 | [],_,_,h=>by simpa only [VRr] using h
 | r::rs,vs,S,h=>by
   simp only [VRr] at h ⊢
   obtain ⟨v1,v2,S1,S2,h1,h2,h3,h4⟩:=h
   exact ⟨v1,v2,S1,S2,h1,h2,VRl_base r v1 S1 h3,VRr_base rs v2 S2 h4⟩
end
end
section
variable {base:Nat} {w0 w:World} {L:Nat→Option Loc} {N:Nat} {F:Nat→List Nat} {E:List Nat} {h:Heap}
theorem cells_of_row {cur:Array Value} {t:TypeId} {b:Nat} {pre vals rest:List Value} (hb:w.heap[b]? = some (.cells cur t (0,0))) (hc:cur.toList=pre++vals++rest) :
   cellsAt w b pre.length vals:=by
 intro j v hj
 rw [cell_of_row w b _ cur t (0,0) hb,←Array.getElem?_toList,hc,List.append_assoc,List.getElem?_append_right (by omega),Nat.add_sub_cancel_left,List.getElem?_append_left (List.getElem?_eq_some_iff.1 hj).1]
 exact hj
theorem flat_length {rows:List (List AV)} {sz:Nat} (h:∀ r∈rows,r.length=sz):rows.flatten.length=rows.length*sz:=by
 induction rows with
 | nil=>simp
 | cons r rs ih=>
   simp only [List.flatten_cons,List.length_append,List.length_cons,ih (fun r hr=>h r (by simp [hr])),h r (by simp),Nat.add_mul]; omega
theorem VRr_length {rows:List (List AV)} {sz:Nat} {vals:List Value} {S:List Nat} (h:∀ r∈rows,r.length=sz) (hv:VRr w L N rows vals S):vals.length=rows.length*sz:=by
 rw [VRr_iff] at hv
 rw [VRl_length hv,flat_length h]
theorem HRel.borrow (H:HRel base w0 w L N F E h) {id off len:Nat} {B:Blk} {v:Value} (hB:h id=some B) (hbox:B.box=false) (hlen:off+len≤B.rows.length)
   (hv:VR w L N (.ref id off len) v []):VR w Lo 0 (.sl B.sz (drr ((B.rows.drop off).take len))) v []:=by
 cases hl:L id with
 | none=>rw [H.mod id hl] at hB; cases hB
 | some l=>
   simp only [VR] at hv
   have hr:=hv.1.2.2 l hl
   have hbr:=H.blk id B l hB hl
   have hlenT:(drr ((B.rows.drop off).take len)).length=len:=by rw [drr_eq]; simp; omega
   cases l with
   | none=>
     obtain ⟨hrows,hF⟩:=hbr
     obtain ⟨_,rfl,hl0,rfl⟩:=hr
     subst hl0
     simp only [VR,hlenT]
     simp only [hrows,List.drop_nil,List.take_nil,drr]
     exact ⟨⟨_,_,[],rfl,⟨Nat.zero_le _,Nat.le_refl _⟩,⟨rfl,rfl⟩,.inl trivial⟩,trivial⟩
   | «at» b sz cap=>
     obtain ⟨rfl,_,cur,t,vals,rest,h1,h2,h3,h4,h5,h6,h7,h8,h9,h10⟩:=hbr.cells (hbr.pos hbox)
     obtain ⟨hlim,A,rfl,hA,hcap⟩:=hr
     simp only [hbox,if_false,Bool.false_eq_true] at h10
     have hvl:=VRr_length h8 h10
     obtain ⟨v1,v2,S1,S2,rfl,hS,g1,g2⟩:=VRr_take off h10
     obtain ⟨v3,v4,S3,S4,rfl,hS',g3,g4⟩:=VRr_take len g2
     have hv1:v1.length=off*B.sz:=by
       rw [VRr_length (fun r hr=>h8 r (List.mem_of_mem_take hr)) g1,List.length_take,Nat.min_eq_left (by omega)]
     have hone:one v3:=fun v hv=>h9 v (by simp [hv])
     simp only [VR,hlenT]
     refine ⟨⟨A,_,v3,rfl,⟨hlim,by omega⟩,VRr_base _ _ _ (VRr_dr _ _ _ g3),?_⟩,trivial⟩
     by_cases h0:len=0
     · left; rw [h0,List.take_zero]; rfl
     · right
       refine ⟨b,off*B.sz,hA (.inl (by omega)),not_own_Lo b,lt_of_heap h1,?_,?_,hone⟩
       · intro r hr
         rw [drr_eq] at hr
         obtain ⟨r',hr',rfl⟩:=List.mem_map.1 hr
         rw [drl_eq,List.length_map]; exact h8 r' (List.mem_of_mem_drop (List.mem_of_mem_take hr'))
       · rw [←hv1]
         exact cells_of_row (pre:=v1) (vals:=v3) (rest:=v4++rest) h1 (by rw [h2]; simp)
mutual
theorem bw_sound (H:HRel base w0 w L N F E h):∀ (a:AV) {v:Value} {a':AV},VR w L N a v []→bw a h=some a'→VR w Lo 0 a' v []
 | .undef,_,_,_,hd=>by simp [bw] at hd
 | .ptr ..,_,_,_,hd=>by simp [bw] at hd
 | .fptr ..,_,_,_,hd=>by simp [bw] at hd
 | .mp _,_,_,_,hd=>by simp [bw] at hd
 | .int ..,v,a',hv,hd=>by simp only [bw,Option.some.injEq] at hd; subst hd; simpa only [VR] using hv
 | .bool _,v,a',hv,hd=>by simp only [bw,Option.some.injEq] at hd; subst hd; simpa only [VR] using hv
 | .str _,v,a',hv,hd=>by simp only [bw,Option.some.injEq] at hd; subst hd; simpa only [VR] using hv
 | .nilp,v,a',hv,hd=>by simp only [bw,Option.some.injEq] at hd; subst hd; simpa only [VR] using hv
 | .nil sz,v,a',hv,hd=>by
   simp only [bw,Option.some.injEq] at hd; subst hd
   simp only [VR] at hv ⊢
   exact ⟨⟨_,_,[],hv.1,⟨Nat.zero_le _,Nat.le_refl _⟩,⟨rfl,rfl⟩,.inl trivial⟩,trivial⟩
 | .sl sz rows,v,a',hv,hd=>by
   simp only [bw,Option.some.injEq] at hd; subst hd
   exact VR_base _ _ _ (by simpa only [VR] using hv)
 | .us sz rows,v,a',hv,hd=>by
   simp only [bw,Option.some.injEq] at hd; subst hd
   have:=VR_dr _ _ _ hv
   exact VR_base _ _ _ (by simpa only [VR,dr] using this)
 | .ref id off len,v,a',hv,hd=>by
   simp only [bw] at hd
   split at hd
   · rename_i B hB
     split at hd
     · rename_i hc
       simp only [Option.some.injEq] at hd; subst hd
       exact H.borrow hB hc.1 hc.2 hv
     · cases hd
   · cases hd
 | .fn f fi ca,v,a',hv,hd=>by
   have:∃ x y,bwl fi h=some x∧bwl ca h=some y∧a' = .fn f x y:=by
     cases fi with
     | nil=>
       cases ca with
       | nil=>simp only [bw,Option.some.injEq] at hd; exact ⟨[],[],rfl,rfl,hd.symm⟩
       | cons=>simp only [bw,Option.bind_eq_some_iff,Option.map_eq_some_iff] at hd; obtain ⟨x,hx,y,hy,he⟩:=hd; exact ⟨x,y,hx,hy,he.symm⟩
     | cons=>simp only [bw,Option.bind_eq_some_iff,Option.map_eq_some_iff] at hd; obtain ⟨x,hx,y,hy,he⟩:=hd; exact ⟨x,y,hx,hy,he.symm⟩
   obtain ⟨x,y,hx,hy,rfl⟩:=this
   simp only [VR] at hv ⊢
   obtain ⟨⟨x',y',rfl,h1,h2⟩,_⟩:=hv
   exact ⟨⟨x',y',rfl,bwl_sound H fi h1 hx,bwl_sound H ca h2 hy⟩,trivial⟩
 | .agg cs,v,a',hv,hd=>by
   simp only [bw,Option.map_eq_some_iff] at hd
   obtain ⟨cs',hd,rfl⟩:=hd
   simp only [VR] at hv ⊢
   obtain ⟨vs,rfl,hv⟩:=hv
   exact ⟨vs,rfl,bwl_sound H cs hv hd⟩
 | .tup cs,v,a',hv,hd=>by
   simp only [bw,Option.map_eq_some_iff] at hd
   obtain ⟨cs',hd,rfl⟩:=hd
   simp only [VR] at hv ⊢
   obtain ⟨vs,rfl,hv⟩:=hv
   exact ⟨vs,rfl,bwl_sound H cs hv hd⟩
theorem bwl_sound (H:HRel base w0 w L N F E h):∀ (as:List AV) {vs:List Value} {as':List AV},VRl w L N as vs []→bwl as h=some as'→VRl w Lo 0 as' vs []
 | [],vs,as',hv,hd=>by simp only [bwl,Option.some.injEq] at hd; subst hd; simpa only [VRl] using hv
 | a::as,vs,as',hv,hd=>by
   simp only [bwl,Option.bind_eq_some_iff,Option.map_eq_some_iff] at hd
   obtain ⟨x,hx,y,hy,rfl⟩:=hd
   obtain ⟨v,vs',rfl,hv1,hv2⟩:=VRl_nil_cons.1 hv
   exact VRl_nil_cons.2 ⟨v,vs',rfl,bw_sound H a hv1 hx,bwl_sound H as hv2 hy⟩
end
end
open Go Go.RowKit
theorem addAll_eq:∀ (rs:List (Nat×List (List AV))) (h:Heap) (n id:Nat),
   addAll h n rs id=if n≤id then (match rs[id - n]? with | some r=>some ⟨false,r.1,r.2⟩ | Option.none=>h id) else h id
 | [],h,n,id=>by simp [addAll]
 | r::rs,h,n,id=>by
   rw [addAll,addAll_eq rs]
   by_cases h1:n+1≤id
   · rw [if_pos h1,if_pos (by omega)]
     have:id - n=(id - (n+1))+1:=by omega
     rw [this,List.getElem?_cons_succ]
     rw [upd_other _ _ _ _ (by omega)]
   · rw [if_neg h1]
     by_cases h2:id=n
     · subst h2; rw [upd_same,if_pos (Nat.le_refl _)]; simp
     · rw [upd_other _ _ _ _ h2,if_neg (by omega)]
def blks (p:Loc×List Nat):List Nat:=match p.1 with | .at b _ _=>b::p.2 | .none=>p.2
structure ColData (w:World) (rs:List (Nat×List (List AV))) (ls:List (Loc×List Nat)) (S:List Nat):Prop where
 len:ls.length=rs.length
 S:S=(ls.map blks).flatten
 brel:∀ (i:Nat) rows l f,rs[i]? = some rows→ls[i]? = some (l,f)→BRel w Lo 0 ⟨false,rows.1,rows.2⟩ l f∧cleanr rows.2=true
theorem ColData.append {w:World} {rs rs':List (Nat×List (List AV))} {ls ls':List (Loc×List Nat)} {S S':List Nat} (h:ColData w rs ls S) (h':ColData w rs' ls' S') :
   ColData w (rs++rs') (ls++ls') (S++S'):=by
 refine ⟨by simp [h.len,h'.len],by simp [h.S,h'.S],?_⟩
 intro i rows l f h1 h2
 by_cases hi:i<rs.length
 · rw [List.getElem?_append_left hi] at h1
   rw [List.getElem?_append_left (by rw [h.len]; exact hi)] at h2
   exact h.brel i rows l f h1 h2
 · rw [List.getElem?_append_right (by omega)] at h1
   rw [List.getElem?_append_right (by rw [h.len]; omega),h.len] at h2
   exact h'.brel _ rows l f h1 h2
section
variable {w:World}
mutual
theorem col_data:∀ (r:AV) (v:Value) (S:List Nat),clean r=true→VR w Lo 0 r v S →
   ∃ ls,ColData w (col r) ls S∧∀ (L:Nat→Option Loc) (n n':Nat),n+(col r).length≤n'→(∀ (i:Nat) p,ls[i]? = some p→L (n+i)=some p.1)→VR w L n' (sub r n) v []
 | .undef,_,_,c,_=>by simp [clean] at c
 | .nil _,_,_,c,_=>by simp [clean] at c
 | .ptr ..,_,_,c,_=>by simp [clean] at c
 | .fptr ..,_,_,c,_=>by simp [clean] at c
 | .ref ..,_,_,c,_=>by simp [clean] at c
 | .sl ..,_,_,c,_=>by simp [clean] at c
 | .fn ..,_,_,c,_=>by simp [clean] at c
 | .mp ..,_,_,c,_=>by simp [clean] at c
 | .int ..,v,S,c,h=>by
   simp only [VR] at h; obtain ⟨rfl,rfl⟩:=h
   exact ⟨[],⟨rfl,rfl,by simp [col]⟩,fun L n n' _ _=>by simp [sub,VR]⟩
 | .bool _,v,S,c,h=>by
   simp only [VR] at h; obtain ⟨rfl,rfl⟩:=h
   exact ⟨[],⟨rfl,rfl,by simp [col]⟩,fun L n n' _ _=>by simp [sub,VR]⟩
 | .str _,v,S,c,h=>by
   simp only [VR] at h; obtain ⟨h1,rfl⟩:=h
   exact ⟨[],⟨rfl,rfl,by simp [col]⟩,fun L n n' _ _=>by simp only [sub,VR]; exact ⟨h1,trivial⟩⟩
 | .nilp,v,S,c,h=>by
   simp only [VR] at h; obtain ⟨rfl,rfl⟩:=h
   exact ⟨[],⟨rfl,rfl,by simp [col]⟩,fun L n n' _ _=>by simp [sub,VR]⟩
 | .us sz rows,v,S,c,h=>by
   simp only [VR,clean] at h c
   obtain ⟨hl,h⟩:=h
   rcases h with ⟨rfl,rfl,rfl⟩ | ⟨b,cap,cur,t,vals,rest,S',rfl,rfl,ho,hb,h1,h2,h3,h4,h5,h6,h6',h7⟩
   · refine ⟨[(.none,[])],⟨rfl,rfl,?_⟩,?_⟩
     · intro i rows l f g1 g2
       cases i with
       | zero=>simp only [col,List.getElem?_cons_zero,Option.some.injEq,Prod.mk.injEq] at g1 g2; obtain ⟨rfl,rfl⟩:=g2; subst g1; exact ⟨⟨rfl,rfl⟩,rfl⟩
       | succ i=>simp [col] at g1
     · intro L n n' hn hL
       have hL0:L n=some .none:=hL 0 _ rfl
       simp only [sub,VR]
       refine ⟨⟨by simp [col] at hn; omega,rfl,?_⟩,trivial⟩
       intro l hl'
       rw [hL0] at hl'; cases hl'
       exact ⟨Nat.zero_le _,rfl,rfl,rfl⟩
   · refine ⟨[(.at b sz cap,S')],⟨rfl,by simp [blks],?_⟩,?_⟩
     · intro i rows' l f g1 g2
       cases i with
       | zero=>
         simp only [col,List.getElem?_cons_zero,Option.some.injEq,Prod.mk.injEq] at g1 g2; obtain ⟨rfl,rfl⟩:=g2; subst g1
         exact ⟨BRel.of ⟨rfl,by simp,cur,t,vals,rest,hb,h1,h2,h3,h5,h4,hl,h6,h6',h7⟩,c⟩
       | succ i=>simp [col] at g1
     · intro L n n' hn hL
       have hL0:L n=some (.at b sz cap):=hL 0 _ rfl
       simp only [sub,VR]
       refine ⟨⟨by simp [col] at hn; omega,rfl,?_⟩,trivial⟩
       intro l hl'
       rw [hL0] at hl'; cases hl'
       exact ⟨hl,some ⟨b,0,Option.none⟩,by simp,by simp,by omega⟩
 | .agg cs,v,S,c,h=>by
   simp only [VR,clean] at h c
   obtain ⟨vs,rfl,h⟩:=h
   obtain ⟨ls,h1,h2⟩:=coll_data cs _ _ c h
   exact ⟨ls,h1,fun L n n' hn hL=>by simp only [sub,VR]; exact ⟨vs,rfl,h2 L n n' hn hL⟩⟩
 | .tup cs,v,S,c,h=>by
   simp only [VR,clean] at h c
   obtain ⟨vs,rfl,h⟩:=h
   obtain ⟨ls,h1,h2⟩:=coll_data cs _ _ c h
   exact ⟨ls,h1,fun L n n' hn hL=>by simp only [sub,VR]; exact ⟨vs,rfl,h2 L n n' hn hL⟩⟩
theorem coll_data:∀ (rs:List AV) (vs:List Value) (S:List Nat),cleanl rs=true→VRl w Lo 0 rs vs S →
   ∃ ls,ColData w (coll rs) ls S∧∀ (L:Nat→Option Loc) (n n':Nat),n+(coll rs).length≤n'→(∀ (i:Nat) p,ls[i]? = some p→L (n+i)=some p.1)→VRl w L n' (subl rs n) vs []
 | [],vs,S,c,h=>by
   simp only [VRl] at h; obtain ⟨rfl,rfl⟩:=h
   exact ⟨[],⟨rfl,rfl,by simp [coll]⟩,fun L n n' _ _=>by simp [subl,VRl]⟩
 | a::as,vs,S,c,h=>by
   simp only [cleanl,Bool.and_eq_true] at c
   simp only [VRl] at h
   obtain ⟨v,vs',S1,S2,rfl,rfl,h1,h2⟩:=h
   obtain ⟨l1,d1,k1⟩:=col_data a v S1 c.1 h1
   obtain ⟨l2,d2,k2⟩:=coll_data as vs' S2 c.2 h2
   refine ⟨l1++l2,d1.append d2,?_⟩
   intro L n n' hn hL
   simp only [coll,List.length_append] at hn
   simp only [subl]
   refine VRl_nil_cons.2 ⟨v,vs',rfl,k1 L n n' (by omega) ?_,k2 L _ n' (by omega) ?_⟩
   · intro i p hp
     refine hL i p ?_
     rw [List.getElem?_append_left (List.getElem?_eq_some_iff.1 hp).1]; exact hp
   · intro i p hp
     have:=hL ((col a).length+i) p (by rw [←d1.len,List.getElem?_append_right (by omega),Nat.add_sub_cancel_left]; exact hp)
     rw [←this]; congr 1; omega
end
end
theorem nodup_flatten_get {α:Type} {ls:List (List α)} (h:ls.flatten.Nodup):∀ (i j:Nat) (x:α) (a b:List α),ls[i]? = some a→ls[j]? = some b→x∈a→x∈b→i=j:=by
 induction ls with
 | nil=>intro i j x a b h1; simp at h1
 | cons l ls ih=>
   simp only [List.flatten_cons] at h
   obtain ⟨n1,n2,n3⟩:=List.nodup_append.1 h
   intro i j x a b h1 h2 ha hb
   cases i with
   | zero=>
     cases j with
     | zero=>rfl
     | succ j=>
       simp only [List.getElem?_cons_zero,Option.some.injEq,List.getElem?_cons_succ] at h1 h2
       subst h1
       exact absurd rfl (n3 x ha x (List.mem_flatten.2 ⟨b,List.mem_of_getElem? h2,hb⟩))
   | succ i=>
     cases j with
     | zero=>
       simp only [List.getElem?_cons_zero,Option.some.injEq,List.getElem?_cons_succ] at h1 h2
       subst h2
       exact absurd rfl (n3 x hb x (List.mem_flatten.2 ⟨a,List.mem_of_getElem? h1,ha⟩))
     | succ j=>
       simp only [List.getElem?_cons_succ] at h1 h2
       rw [ih n2 i j x a b h1 h2 ha hb]
theorem nodup_of_flatten {α:Type} {ls:List (List α)} (h:ls.flatten.Nodup) {i:Nat} {a:List α} (hi:ls[i]? = some a):a.Nodup:=by
 induction ls generalizing i with
 | nil=>simp at hi
 | cons l ls ih=>
   simp only [List.flatten_cons] at h
   obtain ⟨n1,n2,_⟩:=List.nodup_append.1 h
   cases i with
   | zero=>simp only [List.getElem?_cons_zero,Option.some.injEq] at hi; subst hi; exact n1
   | succ i=>exact ih n2 (by simpa using hi)
theorem HRel.take {base:Nat} {w0 w1 w:World} {L:Nat→Option Loc} {N:Nat} {F:Nat→List Nat} {h:Heap} {r:AV} {v:Value} {S:List Nat}
   (H:HRel base w0 w1 L N F [] h) (hb:Below w1.heap.size w1 w) (hc:clean r=true) (hv:VR w Lo 0 r v S) (hn:S.Nodup) (hS:∀ b∈S,w1.heap.size≤b∧b<w.heap.size) :
   ∃ L' F',HRel base w0 w L' (N+(col r).length) F' [] (addAll h N (col r))∧VR w L' (N+(col r).length) (sub r N) v []∧Ext w1 L N w L' (N+(col r).length):=by
 obtain ⟨ls,d,k⟩:=col_data r v S hc hv
 let L':Nat→Option Loc:=fun id=>if N≤id then (match ls[id - N]? with | some p=>some p.1 | Option.none=>L id) else L id
 let F':Nat→List Nat:=fun id=>if N≤id then (match ls[id - N]? with | some p=>p.2 | Option.none=>F id) else F id
 have hLN:∀ id,N≤id→L id=Option.none:=fun id hid=>by
   cases hl:L id with
   | none=>rfl
   | some l=>exact absurd (H.lt id l hl) (by omega)
 have Lold:∀ id,id<N→L' id=L id:=fun id hid=>by show (if N≤id then _ else _)=_; rw [if_neg (by omega)]
 have Fold:∀ id,id<N→F' id=F id:=fun id hid=>by show (if N≤id then _ else _)=_; rw [if_neg (by omega)]
 have Lnew:∀ i p,ls[i]? = some p→L' (N+i)=some p.1:=fun i p hp=>by
   show (if N≤N+i then _ else _)=_; rw [if_pos (by omega),Nat.add_sub_cancel_left,hp]
 have Fnew:∀ i p,ls[i]? = some p→F' (N+i)=p.2:=fun i p hp=>by
   show (if N≤N+i then _ else _)=_; rw [if_pos (by omega),Nat.add_sub_cancel_left,hp]
 have Fcase:∀ id b,b∈F' id→(b∈F id∧F' id=F id)∨∃ i p,id=N+i∧ls[i]? = some p∧b∈p.2:=fun id b hm=>by
   by_cases hid:N≤id
   · cases hp:ls[id - N]? with
     | none=>
       left
       have:F' id=F id:=by show (if N≤id then _ else _)=_; rw [if_pos hid,hp]
       rw [this] at hm; exact ⟨hm,this⟩
     | some p=>
       right
       refine ⟨id - N,p,by omega,hp,?_⟩
       have:=Fnew (id - N) p hp
       rw [show N+(id - N)=id by omega] at this
       rw [this] at hm; exact hm
   · left; rw [Fold id (by omega)] at hm; exact ⟨hm,Fold id (by omega)⟩
 have Lcase:∀ id l,L' id=some l→(id<N∧L id=some l)∨∃ i f,id=N+i∧ls[i]? = some (l,f):=fun id l hl=>by
   by_cases hid:N≤id
   · cases hp:ls[id - N]? with
     | none=>
       have:L' id=L id:=by show (if N≤id then _ else _)=_; rw [if_pos hid,hp]
       rw [this,hLN id hid] at hl; cases hl
     | some p=>
       right
       have:=Lnew (id - N) p hp
       rw [show N+(id - N)=id by omega] at this
       rw [this] at hl; cases hl
       exact ⟨id - N,p.2,by omega,hp⟩
   · left; rw [Lold id (by omega)] at hl; exact ⟨by omega,hl⟩
 have hSin:∀ (i:Nat) (p:Loc×List Nat) (b:Nat),ls[i]? = some p→b∈blks p→b∈S:=fun i p b hp hm=>by
   rw [d.S]; exact List.mem_flatten.2 ⟨blks p,List.mem_map.2 ⟨p,List.mem_of_getElem? hp,rfl⟩,hm⟩
 have hnd:(ls.map blks).flatten.Nodup:=d.S ▸ hn
 have hatb:∀ (i b sz cap:Nat) (f:List Nat),ls[i]? = some (Loc.at b sz cap,f)→b∈S:=fun i b sz cap f hp=>hSin i _ b hp (by simp [blks])
 have hfin:∀ (i:Nat) (p:Loc×List Nat) b,ls[i]? = some p→b∈p.2→b∈S:=fun i p b hp hm=>hSin i p b hp (by
   unfold blks; split
   · exact List.mem_cons_of_mem _ hm
   · exact hm)
 have ownL':∀ b,Own L' b→Own L b∨b∈S:=by
   rintro b ⟨id,sz,cap,hid⟩
   rcases Lcase id _ hid with ⟨_,hl⟩ | ⟨i,f,rfl,hp⟩
   · exact .inl ⟨id,sz,cap,hl⟩
   · exact .inr (hatb i b sz cap f hp)
 have e:Ext w1 L N w L' (N+(col r).length):=by
   refine ⟨by omega,?_,hb.size,?_⟩
   · intro id l hid hl; rw [Lold id hid] at hl; exact hl
   · intro b hlt ho
     refine ⟨hb.block b hlt,fun h' => ?_⟩
     rcases ownL' b h' with h' | h'
     · exact ho h'
     · have:=(hS b h').1; omega
 have hlen:=d.len
 have fpnew:∀ (i:Nat) (p:Loc×List Nat) b,ls[i]? = some p→b∈p.2→¬Own L' b:=by
   rintro i ⟨l,f⟩ b hp hm ⟨id,sz,cap,hid⟩
   rcases Lcase id _ hid with ⟨_,hl⟩ | ⟨j,g,rfl,hq⟩
   · have h1:=H.own_lt ⟨id,sz,cap,hl⟩
     have h2:=(hS b (hfin i _ b hp hm)).1
     omega
   · have hij:i=j:=nodup_flatten_get hnd i j b (blks (l,f)) (blks (Loc.at b sz cap,g)) (by rw [List.getElem?_map,hp]; rfl) (by rw [List.getElem?_map,hq]; rfl)
       (by unfold blks; split; exact List.mem_cons_of_mem _ hm; exact hm) (by simp [blks])
     subst hij
     rw [hp] at hq; cases hq
     have:=nodup_of_flatten hnd (i:=i) (a:=blks (Loc.at b sz cap,f)) (by rw [List.getElem?_map,hp]; rfl)
     simp only [blks,List.nodup_cons] at this
     exact this.1 hm
 refine ⟨L',F',⟨H.below.trans (hb.mono H.bsz),Nat.le_trans H.bsz hb.size,?_,?_,?_,?_,?_,?_,?_,by simp,?_,List.nodup_nil,?_,by simp⟩,k L' N _ (Nat.le_refl _) Lnew,e⟩
 · intro id hid
   rw [addAll_eq] at hid
   by_cases hN:N≤id
   · rw [if_pos hN] at hid
     cases hr:(col r)[id - N]? with
     | none=>
       rw [hr] at hid
       have hls:ls[id - N]? = Option.none:=by rw [List.getElem?_eq_none_iff] at hr ⊢; omega
       show (if N≤id then _ else _)=_
       rw [if_pos hN,hls]; exact hLN id hN
     | some r'=>rw [hr] at hid; cases hid
   · rw [if_neg hN] at hid
     rw [Lold id (by omega)]; exact H.dom id hid
 · intro id hid
   rw [addAll_eq]
   by_cases hN:N≤id
   · rw [if_pos hN]
     cases hr:(col r)[id - N]? with
     | none=>exact H.mod id (hLN id hN)
     | some r'=>
       have:id - N<ls.length:=by rw [hlen]; exact (List.getElem?_eq_some_iff.1 hr).1
       have:=Lnew (id - N) _ (List.getElem?_eq_getElem this)
       rw [show N+(id - N)=id by omega,hid] at this; cases this
   · rw [if_neg hN]; rw [Lold id (by omega)] at hid; exact H.mod id hid
 · intro id l hl
   rcases Lcase id l hl with ⟨h1,_⟩ | ⟨i,f,rfl,hp⟩
   · omega
   · have:=(List.getElem?_eq_some_iff.1 hp).1; omega
 · intro id id' b sz cap sz' cap' h1 h2
   rcases Lcase id _ h1 with ⟨_,h1⟩ | ⟨i,f,rfl,hp⟩
   · rcases Lcase id' _ h2 with ⟨_,h2⟩ | ⟨i',f',rfl,hp'⟩
     · exact H.inj id id' b _ _ _ _ h1 h2
     · have g1:=H.own_lt ⟨id,sz,cap,h1⟩
       have g2:=(hS b (hatb i' b sz' cap' f' hp')).1
       omega
   · rcases Lcase id' _ h2 with ⟨_,h2⟩ | ⟨i',f',rfl,hp'⟩
     · have g1:=H.own_lt ⟨id',sz',cap',h2⟩
       have g2:=(hS b (hatb i b sz cap f hp)).1
       omega
     · rw [nodup_flatten_get hnd i i' b _ _ (by rw [List.getElem?_map,hp]; rfl) (by rw [List.getElem?_map,hp']; rfl) (by simp [blks]) (by simp [blks])]
 · intro b ho
   rcases ownL' b ho with h' | h'
   · exact H.lo b h'
   · exact Nat.le_trans H.bsz (hS b h').1
 · intro id B l h1 h2
   rcases Lcase id l h2 with ⟨hid,hl⟩ | ⟨i,f,rfl,hp⟩
   · rw [addAll_eq,if_neg (by omega)] at h1
     rw [Fold id hid]
     exact (H.blk id B l h1 hl).ext e fun b sz cap hl'=>hb.block b (H.own_lt ⟨id,sz,cap,hl' ▸ hl⟩)
   · rw [Fnew i _ hp]
     rw [addAll_eq,if_pos (by omega),Nat.add_sub_cancel_left] at h1
     have hi:i<(col r).length:=by have:=(List.getElem?_eq_some_iff.1 hp).1; omega
     rw [List.getElem?_eq_getElem hi] at h1
     simp only [Option.some.injEq] at h1
     subst h1
     obtain ⟨g1,g2⟩:=d.brel i _ l f (List.getElem?_eq_getElem hi) hp
     cases l with
     | none=>exact g1
     | «at» b sz cap=>
       obtain ⟨h0,_,cur,t,vals,rest,h1,h2,h3,h4,h5,h6,h7,h8,h9,h10⟩:=g1.cells (g1.pos rfl)
       exact BRel.of ⟨h0,by simp,cur,t,vals,rest,h1,h2,h3,h4,h5,h6,h7,h8,h9,VRr_env _ _ _ g2 (fun b hb=>fpnew i _ b hp hb) h10⟩
 · intro id b hm
   rcases Fcase id b hm with ⟨h1,_⟩ | ⟨i,p,rfl,hp,hm'⟩
   · obtain ⟨g1,g2,g3⟩:=H.fp id b h1
     exact ⟨(e.block b g3 g1).2,g2,Nat.lt_of_lt_of_le g3 hb.size⟩
   · have:=hS b (hfin i p b hp hm')
     exact ⟨fpnew i p b hp hm',Nat.le_trans H.bsz this.1,this.2⟩
 · intro id
   by_cases hid:N≤id
   · cases hp:ls[id - N]? with
     | none=>
       have:F' id=F id:=by show (if N≤id then _ else _)=_; rw [if_pos hid,hp]
       rw [this]; exact H.nd id
     | some p=>
       have:=Fnew (id - N) p hp
       rw [show N+(id - N)=id by omega] at this
       rw [this]
       have:=nodup_of_flatten hnd (i:=id - N) (a:=blks p) (by rw [List.getElem?_map,hp]; rfl)
       unfold blks at this; split at this
       · exact (List.nodup_cons.1 this).2
       · exact this
   · rw [Fold id (by omega)]; exact H.nd id
 · intro id id' b h1 h2
   rcases Fcase id b h1 with ⟨h1,_⟩ | ⟨i,p,rfl,hp,hm⟩
   · rcases Fcase id' b h2 with ⟨h2,_⟩ | ⟨i',p',rfl,hp',hm'⟩
     · exact H.dj id id' b h1 h2
     · have g1:=(H.fp id b h1).2.2
       have g2:=(hS b (hfin i' p' b hp' hm')).1
       omega
   · rcases Fcase id' b h2 with ⟨h2,_⟩ | ⟨i',p',rfl,hp',hm'⟩
     · have g1:=(H.fp id' b h2).2.2
       have g2:=(hS b (hfin i p b hp hm)).1
       omega
     · have hin:∀ (p:Loc×List Nat),b∈p.2→b∈blks p:=fun p hm=>by unfold blks; split; exact List.mem_cons_of_mem _ hm; exact hm
       rw [nodup_flatten_get hnd i i' b (blks p) (blks p') (by rw [List.getElem?_map,hp]; rfl) (by rw [List.getElem?_map,hp']; rfl) (hin p hm) (hin p' hm')]
open Go Go.RowKit
section
variable {base:Nat} {w0 w w':World} {L:Nat→Option Loc} {N N':Nat} {F:Nat→List Nat} {E E':List Nat} {h:Heap}
theorem HRel.chg (H:HRel base w0 w L N F E h) (k kill:Nat) (B':Blk) (l':Loc) (S':List Nat)
   (hN:N≤N') (hkN:k<N') (hk:k=kill∨N≤k) (hsame:k<N→L k=some l')
   (hw:Below base w w')
   (hblk:∀ b,b<w.heap.size→(∀ sz cap,L kill≠some (.at b sz cap))→w'.heap[b]? = w.heap[b]?)
   (hown:∀ b sz cap,l' = .at b sz cap→base≤b∧b<w'.heap.size∧((∃ sz cap,L kill=some (.at b sz cap))∨w.heap.size≤b))
   (hB:∀ L',Ext w L N w' L' N'→L'=upd (upd L kill Option.none) k (some l')→BRel w' L' N' B' l' S')
   (hS:(S'++E').Nodup) (hS2:∀ x∈S'++E',x∈F kill∨x∈E) :
   HRel base w0 w' (upd (upd L kill Option.none) k (some l')) N' (upd (upd F kill []) k S') E' (upd (upd h kill Option.none) k (some B')) ∧
     Ext w L N w' (upd (upd L kill Option.none) k (some l')) N':=by
 have hLk:k≠kill→L k=Option.none:=fun hne=>by
   cases hl:L k with
   | none=>rfl
   | some l=>have:=H.lt k l hl; rcases hk with hk | hk; exact absurd hk hne; omega
 have Lc:∀ i l,upd (upd L kill Option.none) k (some l') i=some l→(i=k∧l=l')∨(i≠k∧i≠kill∧L i=some l):=fun i l hi=>by
   simp only [upd] at hi
   split at hi
   · rename_i hik; cases hi; exact .inl ⟨hik,rfl⟩
   · split at hi
     · cases hi
     · exact .inr ⟨by assumption,by assumption,hi⟩
 have Oc:∀ b,Own (upd (upd L kill Option.none) k (some l')) b→Own L b∨w.heap.size≤b:=by
   rintro b ⟨i,sz,cap,hi⟩
   rcases Lc i _ hi with ⟨rfl,hl⟩ | ⟨_,_,hl⟩
   · rcases (hown b sz cap hl.symm).2.2 with ⟨sz',cap',h'⟩ | h'
     · exact .inl ⟨kill,sz',cap',h'⟩
     · exact .inr h'
   · exact .inl ⟨i,sz,cap,hl⟩
 have Fc:∀ i x,x∈upd (upd F kill []) k S' i→(i=k∧x∈S')∨(i≠k∧i≠kill∧x∈F i):=fun i x hi=>by
   simp only [upd] at hi
   split at hi
   · rename_i hik; exact .inl ⟨hik,hi⟩
   · split at hi
     · cases hi
     · exact .inr ⟨by assumption,by assumption,hi⟩
 have e:Ext w L N w' (upd (upd L kill Option.none) k (some l')) N':=by
   refine ⟨hN,?_,hw.size,?_⟩
   · intro i l hi hl
     rcases Lc i l hl with ⟨rfl,rfl⟩ | ⟨_,_,hl⟩
     · exact hsame hi
     · exact hl
   · intro b hlt ho
     refine ⟨hblk b hlt fun sz cap hl=>ho ⟨kill,sz,cap,hl⟩,fun h' => ?_⟩
     rcases Oc b h' with h' | h'
     · exact ho h'
     · omega
 have Fu:∀ i x,x∈F i∨x∈E→¬Own L x∧base≤x∧x<w.heap.size:=fun i x hx=>hx.elim (H.fp i x) (H.ep x)
 have Fu':∀ i x,x∈F i∨x∈E→¬Own (upd (upd L kill Option.none) k (some l')) x∧base≤x∧x<w'.heap.size:=fun i x hx=>
   let ⟨h1,h2,h3⟩:=Fu i x hx; ⟨(e.block x h3 h1).2,h2,Nat.lt_of_lt_of_le h3 hw.size⟩
 have Sx:∀ x,x∈S'→∀ i,i≠kill→x∉F i:=fun x hx i hi hf=>by
   rcases hS2 x (by simp [hx]) with h1 | h1
   · exact hi (H.dj i kill x hf h1)
   · exact H.de i x hf h1
 have Ex:∀ x,x∈E'→∀ i,i≠kill→x∉F i:=fun x hx i hi hf=>by
   rcases hS2 x (by simp [hx]) with h1 | h1
   · exact hi (H.dj i kill x hf h1)
   · exact H.de i x hf h1
 obtain ⟨n1,n2,n3⟩:=List.nodup_append.1 hS
 refine ⟨⟨H.below.trans hw,Nat.le_trans H.bsz hw.size,?_,?_,?_,?_,?_,?_,?_,?_,?_,n2,?_,?_⟩,e⟩
 · intro i hi
   simp only [upd] at hi ⊢
   split
   · rename_i hik; rw [if_pos hik] at hi; cases hi
   · rename_i hik; rw [if_neg hik] at hi
     split
     · rfl
     · rename_i hik'; rw [if_neg hik'] at hi; exact H.dom i hi
 · intro i hi
   simp only [upd] at hi ⊢
   split
   · rename_i hik; rw [if_pos hik] at hi; cases hi
   · rename_i hik; rw [if_neg hik] at hi
     split
     · rfl
     · rename_i hik'; rw [if_neg hik'] at hi; exact H.mod i hi
 · intro i l hl
   rcases Lc i l hl with ⟨rfl,_⟩ | ⟨_,_,hl⟩
   · exact hkN
   · exact Nat.lt_of_lt_of_le (H.lt i l hl) hN
 · intro i j b sz cap sz' cap' h1 h2
   rcases Lc i _ h1 with ⟨rfl,g1⟩ | ⟨p1,p2,g1⟩
   · rcases Lc j _ h2 with ⟨rfl,g2⟩ | ⟨q1,q2,g2⟩
     · rfl
     · exfalso
       rcases (hown b sz cap g1.symm).2.2 with ⟨s1,s2,g3⟩ | g3
       · exact q2 (H.inj j kill b _ _ _ _ g2 g3)
       · have:=H.own_lt ⟨j,sz',cap',g2⟩; omega
   · rcases Lc j _ h2 with ⟨rfl,g2⟩ | ⟨q1,q2,g2⟩
     · exfalso
       rcases (hown b sz' cap' g2.symm).2.2 with ⟨s1,s2,g3⟩ | g3
       · exact p2 (H.inj i kill b _ _ _ _ g1 g3)
       · have:=H.own_lt ⟨i,sz,cap,g1⟩; omega
     · exact H.inj i j b _ _ _ _ g1 g2
 · intro b ho
   rcases Oc b ho with h1 | h1
   · exact H.lo b h1
   · exact Nat.le_trans H.bsz h1
 · intro i B l h1 h2
   rcases Lc i l h2 with ⟨rfl,rfl⟩ | ⟨p1,p2,g1⟩
   · rw [upd_same] at h1 ⊢; cases h1; exact hB _ e rfl
   · rw [upd_other _ _ _ _ p1,upd_other _ _ _ _ p2] at h1 ⊢
     refine (H.blk i B l h1 g1).ext e fun b sz cap hl=>hblk b (H.own_lt ⟨i,sz,cap,hl ▸ g1⟩) fun s1 s2 hk' => ?_
     exact p2 (H.inj i kill b _ _ _ _ (hl ▸ g1) hk')
 · intro i x hx
   rcases Fc i x hx with ⟨_,hx⟩ | ⟨_,_,hx⟩
   · exact Fu' kill x (hS2 x (by simp [hx]))
   · exact Fu' i x (.inl hx)
 · intro x hx
   exact Fu' kill x (hS2 x (by simp [hx]))
 · intro i
   simp only [upd]
   split
   · exact n1
   · split
     · exact List.nodup_nil
     · exact H.nd i
 · intro i j x h1 h2
   rcases Fc i x h1 with ⟨rfl,g1⟩ | ⟨p1,p2,g1⟩
   · rcases Fc j x h2 with ⟨rfl,g2⟩ | ⟨q1,q2,g2⟩
     · rfl
     · exact absurd g2 (Sx x g1 j q2)
   · rcases Fc j x h2 with ⟨rfl,g2⟩ | ⟨q1,q2,g2⟩
     · exact absurd g1 (Sx x g2 i p2)
     · exact H.dj i j x g1 g2
 · intro i x h1 h2
   rcases Fc i x h1 with ⟨rfl,g1⟩ | ⟨p1,p2,g1⟩
   · exact n3 x g1 x h2 rfl
   · exact Ex x h2 i p2 g1
end
open Go Go.RowKit
def rowD (rows:List (List AV)) (i:Nat):List AV:=rows.getD i []
def splice (row:List AV) (c:Nat) (cells:List AV):List AV:=row.take c++cells++row.drop (c+cells.length)
def ldv (raw agg:Bool) (row:List AV) (c sz:Nat):Option AV:=
 if c+sz≤row.length then
   if agg then some (.agg (if raw then (row.drop c).take sz else drl ((row.drop c).take sz)))
   else if sz=1 then (match row[c]? with | some a=>some (if raw then a else dr a) | Option.none=>Option.none) else Option.none
 else Option.none
def onO {α:Type} (x:Option α) (K:α→Prop):Prop:=match x with | some a=>K a | Option.none=>False
def binI (op:BinOp) (k:IntKind) (a b:Int):Option AV:=
 match op with
 | .add=>some (.int k (k.wrap (a+b)))
 | .sub=>some (.int k (k.wrap (a - b)))
 | .mul=>some (.int k (k.wrap (a*b)))
 | .and=>some (.int k (Go.bits .and k a b))
 | .or=>some (.int k (Go.bits .or k a b))
 | .xor=>some (.int k (Go.bits .xor k a b))
 | .eql=>some (.bool (a==b))
 | .neq=>some (.bool (a != b))
 | .lss=>some (.bool (decide (a<b)))
 | .leq=>some (.bool (decide (a≤b)))
 | .gtr=>some (.bool (decide (a>b)))
 | .geq=>some (.bool (decide (a≥b)))
 | _=>Option.none
def binS (op:BinOp) (a b:List UInt8):Option AV:=
 match op with
 | .eql=>some (.bool (a==b))
 | .neq=>some (.bool (!(a==b)))
 | .lss=>some (.bool (Op.bytesLess a b))
 | .leq=>some (.bool (Op.bytesLess a b||a==b))
 | .gtr=>some (.bool (!(Op.bytesLess a b||a==b)))
 | .geq=>some (.bool (!(Op.bytesLess a b)))
 | _=>Option.none
def fillA (cells:List AV):List (Nat×Nat×AV)→Option (List AV)
 | []=>some cells
 | (o,sz,v)::ps=>if (cellsOf v).length=sz∧o+sz≤cells.length then fillA (splice cells o (cellsOf v)) ps else Option.none
def bytesOf:List (List AV)→Option (List UInt8)
 | []=>some []
 | [.int .u8 n]::rs=>(bytesOf rs).map fun l=>UInt8.ofNat n.toNat::l
 | _=>Option.none
def asI:AV→Option Int
 | .int _ n=>some n
 | _=>Option.none
def callable (P:Program) (f:FuncId):Bool:=match P.funcs[f]? with | some fn=>fn.body.isSome && !(fn.name == "runtime.NumGoroutine") | Option.none=>false
def ACall (P:Program) (f:FuncId) (as:List AV) (h:Heap) (n:Nat) (K:AV→Heap→Nat→Prop):Prop:=
 callable P f=true∧∀ (base:Nat) (w0 w:World) (L:Nat→Option Loc) (F:Nat→List Nat) (vs:List Value),HRel base w0 w L n F [] h→VRl w L n as vs [] →
   Calls P f vs.toArray w fun e w'=>∃ (v:Value) (r:AV) (L':Nat→Option Loc) (n':Nat) (F':Nat→List Nat) (h':Heap),e = .returned v ∧
     HRel base w0 w' L' n' F' [] h'∧Ext w L n w' L' n'∧VR w' L' n' r v []∧K r h' n'
def srcRows (h:Heap):AV→Option (Nat×List (List AV)×Heap)
 | .sl sz rows=>some (sz,rows,h)
 | .nil sz=>some (sz,[],h)
 | .ref id off len=>match h id with
   | some B=>if B.box=false∧off+len≤B.rows.length then some (B.sz,(B.rows.drop off).take len,upd h id (some ⟨false,B.sz,drr B.rows⟩)) else Option.none
   | Option.none=>Option.none
 | _=>Option.none
def eqK:List Nat→List AV→List AV→Option Bool
 | [],[],[]=>some true
 | 0::ks,.int k a::xs,.int k' b::ys=>if k=k' then (eqK ks xs ys).map fun r=>(a==b)&&r else Option.none
 | 1::ks,.str a::xs,.str b::ys=>(eqK ks xs ys).map fun r=>(a==b)&&r
 | 2::ks,.bool a::xs,.bool b::ys=>(eqK ks xs ys).map fun r=>(a==b)&&r
 | _,_,_=>Option.none
def mfind:List (List AV)→List UInt8→Option AV
 | [.str k,a]::rs,key=>if k=key then some a else mfind rs key
 | _,_=>Option.none
def mset:List (List AV)→List UInt8→AV→List (List AV)
 | [.str k,a]::rs,key,x=>if k=key then [.str key,x]::rs else [.str k,a]::mset rs key x
 | _,key,x=>[[.str key,x]]
def srcRowsB (h:Heap):AV→Option (Nat×List (List AV))
 | .sl sz rows=>some (sz,rows)
 | .nil sz=>some (sz,[])
 | .ref id off len=>match h id with
   | some B=>if off+len≤B.rows.length then some (B.sz,if B.box then (B.rows.drop off).take len else drr ((B.rows.drop off).take len)) else Option.none
   | Option.none=>Option.none
 | _=>Option.none
inductive AOp where
 | mv (x:Opd)
 | pick (c a b:Opd)
 | box (z:List AV)
 | boxv (x:Opd)
 | build (z:List AV) (ps:List (Nat×Nat×Opd))
 | bsl (sz:Nat) (ps:List Opd)
 | ld (agg:Bool) (sz:Nat) (x:Opd)
 | st (sz:Nat) (a x:Opd)
 | nchk (x:Opd)
 | bin (op:BinOp) (x y:Opd)
 | beq (neg:Bool) (x y:Opd)
 | un (op:UnOp) (x:Opd)
 | cvi (k:IntKind) (x:Opd)
 | cvb (x:Opd)
 | mkf (f:Fn) (first cap:List Opd)
 | mks (bytes:Nat) (z:List AV) (len cap:Opd)
 | slc (str:Bool) (sz:Nat) (x:Opd) (lo hi:Option Opd)
 | fld (off:Nat) (x:Opd)
 | prt (agg:Bool) (off sz:Nat) (x:Opd)
 | ixa (sz:Nat) (x i:Opd)
 | ixs (x i:Opd)
 | ext (x:Opd) (i:Nat)
 | call (f:Opd) (args:List Opd)
 | len (str:Bool) (x:Opd)
 | app (bytes sz:Nat) (x y:Opd)
 | mnx (mx:Bool) (x y:Opd)
 | inil (neg:Bool) (x:Opd)
 | aeq (neg:Bool) (ks:List Nat) (x y:Opd)
 | mmk
 | bslb (sz:Nat) (ps:List Opd)
 | appb (bytes sz:Nat) (x y:Opd)
 | mget (z:AV) (x k:Opd)
 | mput (x k v:Opd)
 | mlen (x:Opd)
def lowOf (s:Nat→AV) (d:Int):Option Opd→Option Int
 | some o=>asI (ev s o)
 | Option.none=>some d
def aop (P:Program) (s:Nat→AV) (h:Heap) (n:Nat) (K:AV→Heap→Nat→Prop):AOp→Prop
 | .mv x=>K (ev s x) h n
 | .pick c a b=>match ev s c with
   | .bool c=>(c=true→K (ev s a) h n)∧(c=false→K (ev s b) h n)
   | _=>False
 | .box z=>K (.ptr n 0 0) (upd h n (some ⟨true,z.length,[z]⟩)) (n+1)
 | .boxv x=>0<(cellsOf (ev s x)).length∧(cellsOf (ev s x)).all isCell=true∧K (.ptr n 0 0) (upd h n (some ⟨true,(cellsOf (ev s x)).length,[cellsOf (ev s x)]⟩)) (n+1)
 | .build z ps=>(ps.all fun p=>(cellsOf (ev s p.2.2)).all isCell)=true∧onO (fillA z (ps.map fun p=>(p.1,p.2.1,ev s p.2.2))) fun cs=>K (.agg cs) h n
 | .bsl sz ps=>onO (dtl (ps.map (ev s)) h) fun q=>(q.1.all fun a=>(cellsOf a).length==sz&&(cellsOf a).all isCell)=true ∧
     K (.ref n 0 ps.length) (upd q.2 n (some ⟨false,sz,q.1.map cellsOf⟩)) (n+1)
 | .ld agg sz x=>match ev s x with
   | .ptr id r c=>onO (h id) fun B=>r<B.rows.length∧onO (ldv B.box agg (rowD B.rows r) c sz) fun a=>K a h n
   | .fptr row c=>onO (ldv true agg row c sz) fun a=>K a h n
   | _=>False
 | .st sz a x=>(cellsOf (ev s x)).length=sz∧(cellsOf (ev s x)).all isCell=true∧match ev s a with
   | .ptr id r c=>onO (h id) fun B=>
       if B.box then r<B.rows.length∧c+sz≤(rowD B.rows r).length∧K (.tup []) (upd h id (some ⟨true,B.sz,B.rows.set r (splice (rowD B.rows r) c (cellsOf (ev s x)))⟩)) n
       else onO (dtl (cellsOf (ev s x)) h) fun q=>onO (q.2 id) fun B'=>B'.box=false∧r<B'.rows.length∧c+sz≤(rowD B'.rows r).length ∧
         K (.tup []) (upd q.2 id (some ⟨false,B'.sz,B'.rows.set r (splice (rowD B'.rows r) c q.1)⟩)) n
   | _=>False
 | .nchk x=>match ev s x with
   | .ptr id r c=>(h id).isSome=true∧K (.ptr id r c) h n
   | .fptr row c=>K (.fptr row c) h n
   | _=>False
 | .bin op x y=>match ev s x,ev s y with
   | .int k a,.int k' b=>k=k'∧match op with
     | .quo=>b≠0∧K (.int k (k.wrap (a.tdiv b))) h n
     | .rem=>b≠0∧K (.int k (a.tmod b)) h n
     | _=>onO (binI op k a b) fun r=>K r h n
   | .str a,.str b=>match op with
     | .add=>a.length+b.length≤LIM∧K (.str (a++b)) h n
     | _=>onO (binS op a b) fun r=>K r h n
   | _,_=>False
 | .beq neg x y=>match ev s x,ev s y with
   | .bool a,.bool b=>K (.bool (if neg then !(a==b) else a==b)) h n
   | _,_=>False
 | .un op x=>match op,ev s x with
   | .not,.bool b=>K (.bool (!b)) h n
   | .neg,.int k a=>K (.int k (k.wrap (0 - a))) h n
   | _,_=>False
 | .cvi k x=>onO (asI (ev s x)) fun a=>K (.int k (k.wrap a)) h n
 | .cvb x=>onO (srcRows h (ev s x)) fun p=>onO (bytesOf p.2.1) fun l=>K (.str l) h n
 | .mkf f fi ca=>K (.fn f (fi.map (ev s)) (ca.map (ev s))) h n
 | .mks bytes z len cap=>onO (asI (ev s len)) fun l=>onO (asI (ev s cap)) fun c=>0≤l∧l≤c∧c*bytes≤LIM ∧
     K (.ref n 0 l.toNat) (upd h n (some ⟨false,z.length,List.replicate l.toNat z⟩)) (n+1)
 | .slc str sz x lo hi=>match str,ev s x with
   | true,.str l=>onO (lowOf s 0 lo) fun a=>onO (lowOf s l.length hi) fun b=>0≤a∧a≤b∧b≤l.length∧K (.str ((l.take b.toNat).drop a.toNat)) h n
   | false,.sl sz' rows=>onO (lowOf s 0 lo) fun a=>onO (lowOf s rows.length hi) fun b=>sz'=sz∧0≤a∧a≤b∧b≤rows.length∧K (.sl sz' ((rows.take b.toNat).drop a.toNat)) h n
   | false,.ref id off len=>onO (lowOf s 0 lo) fun a=>onO (lowOf s len hi) fun b=>0≤a∧a≤b∧b≤len∧onO (h id) fun B=>B.sz=sz∧K (.ref id (off+a.toNat) (b - a).toNat) h n
   | false,.nil sz'=>onO (lowOf s 0 lo) fun a=>onO (lowOf s 0 hi) fun b=>a=0∧b=0∧K (.nil sz') h n
   | _,_=>False
 | .fld off x=>match ev s x with
   | .ptr id r c=>(h id).isSome=true∧K (.ptr id r (c+off)) h n
   | .fptr row c=>K (.fptr row (c+off)) h n
   | _=>False
 | .prt agg off sz x=>match ev s x with
   | .agg cs=>onO (ldv true agg cs off sz) fun a=>K a h n
   | _=>False
 | .ixa sz x i=>match ev s x,asI (ev s i) with
   | .sl sz' rows,some i=>sz'=sz∧0≤i∧i<rows.length∧K (.fptr (rowD rows i.toNat) 0) h n
   | .ref id off len,some i=>0≤i∧i<len∧onO (h id) fun B=>B.sz=sz∧K (.ptr id (off+i.toNat) 0) h n
   | _,_=>False
 | .ixs x i=>match ev s x,asI (ev s i) with
   | .str l,some i=>0≤i∧i<l.length∧K (.int .u8 (l.getD i.toNat 0).toNat) h n
   | _,_=>False
 | .ext x i=>match ev s x with
   | .tup vs=>onO vs[i]? fun a=>K a h n
   | _=>False
 | .call f args=>match ev s f with
   | .fn (.func f) fi ca=>ACall P f (fi++args.map (ev s)++ca) h n K
   | _=>False
 | .len str x=>match str,ev s x with
   | true,.str l=>l.length≤LIM→K (.int .i64 l.length) h n
   | false,.sl _ rows=>rows.length≤LIM→K (.int .i64 rows.length) h n
   | false,.ref id _ len=>(h id).isSome=true∧(len≤LIM→K (.int .i64 len) h n)
   | false,.nil _=>K (.int .i64 0) h n
   | _,_=>False
 | .app bytes sz x y=>match ev s x with
   | .nil _=>onO (srcRows h (ev s y)) fun p=>p.1=sz∧(p.2.1.length*bytes≤LIM)∧K (.ref n 0 p.2.1.length) (upd p.2.2 n (some ⟨false,sz,p.2.1⟩)) (n+1)
   | .ref id off len=>off=0∧onO (srcRows h (ev s y)) fun p=>onO (h id) fun B=>B.box=false∧B.sz=sz∧len≤B.rows.length∧p.1=sz ∧
       (match ev s y with | .ref id2 _ _=>id2≠id | _=>True)∧((len+p.2.1.length)*bytes≤LIM) ∧
       K (.ref n 0 (len+p.2.1.length)) (upd (upd p.2.2 id Option.none) n (some ⟨false,sz,B.rows.take len++p.2.1⟩)) (n+1)
   | _=>False
 | .mnx mx x y=>match ev s x,ev s y with
   | .int k a,.int k' b=>k=k'∧K (.int k (if mx then (if b>a then b else a) else (if b<a then b else a))) h n
   | _,_=>False
 | .inil neg x=>match ev s x with
   | .sl _ rows=>(rows=[]→K (.bool (!neg)) h n)∧K (.bool neg) h n
   | .nil _=>K (.bool (!neg)) h n
   | .ref id _ len=>(h id).isSome=true∧(len=0→K (.bool (!neg)) h n)∧K (.bool neg) h n
   | _=>False
 | .aeq neg ks x y=>match ev s x,ev s y with
   | .agg xs,.agg ys=>onO (eqK ks xs ys) fun b=>K (.bool (if neg then !b else b)) h n
   | _,_=>False
 | .bslb sz ps=>(ps.all fun p=>(cellsOf (ev s p)).length==sz&&(cellsOf (ev s p)).all isCell)=true ∧
     K (.ref n 0 ps.length) (upd h n (some ⟨true,sz,ps.map fun p=>cellsOf (ev s p)⟩)) (n+1)
 | .appb bytes sz x y=>match ev s x with
   | .nil _=>onO (srcRowsB h (ev s y)) fun p=>p.1=sz∧(p.2.length*bytes≤LIM)∧K (.ref n 0 p.2.length) (upd h n (some ⟨true,sz,p.2⟩)) (n+1)
   | .ref id off len=>off=0∧onO (srcRowsB h (ev s y)) fun p=>onO (h id) fun B=>B.box=true∧B.sz=sz∧len≤B.rows.length∧p.1=sz∧((len+p.2.length)*bytes≤LIM) ∧
       K (.ref n 0 (len+p.2.length)) (upd (upd h id Option.none) n (some ⟨true,sz,B.rows.take len++p.2⟩)) (n+1)
   | _=>False
 | .mmk=>K (.mp n) (upd h n (some ⟨true,0,[]⟩)) (n+1)
 | .mget z x k=>match ev s x,ev s k with
   | .mp id,.str key=>onO (h id) fun B=>K ((mfind B.rows key).getD z) h n
   | _,_=>False
 | .mput x k v=>match ev s x,ev s k with
   | .mp id,.str key=>onO (h id) fun B=>K (.tup []) (upd h id (some ⟨true,0,mset B.rows key (ev s v)⟩)) n
   | _,_=>False
 | .mlen x=>match ev s x with
   | .mp id=>onO (h id) fun B=>K (.int .i64 B.rows.length) h n
   | _=>False
open Go Go.RowKit
def SRel (w:World) (L:Nat→Option Loc) (N:Nat) (s:Nat→AV) (tmps:Array Value):Prop:=∀ i,VR w L N (s i) (tmps.getD i undef) []
theorem SRel.ext {w w':World} {L L':Nat→Option Loc} {N N':Nat} {s:Nat→AV} {tmps:Array Value} (e:Ext w L N w' L' N') (h:SRel w L N s tmps):SRel w' L' N' s tmps:=
 fun i=>VR_ext e _ _ _ (h i)
def Gives (P:Program) (m:Sem Next) (w:World) (Φ:Value→World→Prop):Prop:=
 match m.run P w with
 | .ok (.value v) w'=>Φ v w'
 | .ok .skip w'=>Φ undef w'
 | .ok (.enter f args) w'=>Calls P f args w' fun e w''=>∃ v,e = .returned v∧Φ v w''
 | _=>False
theorem Gives.wp {P:Program} {o:Oper} {a:Act} {w:World} {next:Act→World→Prop} {Q:Exit→Act→World→Prop} {Φ:Value→World→Prop}
   (h:Gives P (execOp a.eval o) w Φ) (hn:∀ v w',Φ v w'→next (a.put o.dst v) w'):o.wp P a w next Q:=by
 unfold Oper.wp Oper.upon
 unfold Gives at h
 split at h
 · rename_i heq; rw [heq]; exact hn _ _ h
 · rename_i heq; rw [heq]; exact hn _ _ h
 · rename_i heq; rw [heq]
   refine h.mono fun e w' he => ?_
   obtain ⟨v,rfl,hv⟩:=he
   exact hn _ _ hv
 · exact h.elim
theorem Gives.of_value {P:Program} {m:Sem Next} {w w':World} {v:Value} {Φ:Value→World→Prop} (h:m.run P w = .ok (.value v) w') (hΦ:Φ v w'):Gives P m w Φ:=by
 unfold Gives; rw [h]; exact hΦ
theorem Gives.of_skip {P:Program} {m:Sem Next} {w w':World} {Φ:Value→World→Prop} (h:m.run P w = .ok .skip w') (hΦ:Φ undef w'):Gives P m w Φ:=by
 unfold Gives; rw [h]; exact hΦ
def Post (base:Nat) (w0 w:World) (L:Nat→Option Loc) (N:Nat) (K:AV→Heap→Nat→Prop) (v:Value) (w':World):Prop:=
 ∃ (r:AV) (L':Nat→Option Loc) (N':Nat) (F':Nat→List Nat) (h':Heap),HRel base w0 w' L' N' F' [] h'∧Ext w L N w' L' N'∧VR w' L' N' r v []∧K r h' N'
theorem Post.same {base:Nat} {w0 w:World} {L:Nat→Option Loc} {N:Nat} {F:Nat→List Nat} {h:Heap} {K:AV→Heap→Nat→Prop} {v:Value} {r:AV}
   (H:HRel base w0 w L N F [] h) (hv:VR w L N r v []) (hK:K r h N):Post base w0 w L N K v w:=⟨r,L,N,F,h,H,Ext.refl _ _ _,hv,hK⟩
def matchV:AV→Value→Bool
 | .int k n,.int k' n'=>k==k'&&n==n'
 | .bool b,.bool b'=>b==b'
 | .str s,.string b=>b.data.toList==s&&decide (s.length≤LIM)
 | .nil _,.slice Option.none 0 0=>true
 | .nilp,.pointer Option.none=>true
 | .tup [],.tuple vs=>vs.isEmpty
 | .undef,v=>v.oneCell'
 | _,_=>false
def matchL:List AV→List Value→Bool
 | [],[]=>true
 | a::as,v::vs=>matchV a v&&v.oneCell'&&matchL as vs
 | _,_=>false
theorem VR_matchV {w:World} {L:Nat→Option Loc} {N:Nat} {a:AV} {v:Value} (h:matchV a v=true):VR w L N a v []:=by
 unfold matchV at h
 split at h
 · simp only [Bool.and_eq_true,beq_iff_eq] at h; obtain ⟨rfl,rfl⟩:=h; simp [VR]
 · simp only [beq_iff_eq] at h; subst h; simp [VR]
 · simp only [Bool.and_eq_true,beq_iff_eq,decide_eq_true_eq] at h; simp only [VR]; exact ⟨⟨_,rfl,h.1,h.2⟩,trivial⟩
 · simp [VR]
 · simp [VR]
 · rename_i vs; have:vs = #[]:=by simpa using h
   subst this; simp [VR,VRl]
 · simp [VR]
 · cases h
theorem VRl_matchL {w:World} {L:Nat→Option Loc} {N:Nat} : ∀ {as:List AV} {vs:List Value},matchL as vs=true→VRl w L N as vs []∧one vs
 | [],[],_=>⟨⟨rfl,rfl⟩,by simp [one]⟩
 | a::as,v::vs,h=>by
   simp only [matchL,Bool.and_eq_true] at h
   obtain ⟨h1,h2⟩:=VRl_matchL (w:=w) (L:=L) (N:=N) h.2
   refine ⟨VRl_nil_cons.2 ⟨v,vs,rfl,VR_matchV h.1.1,h1⟩,?_⟩
   intro u hu
   rcases List.mem_cons.1 hu with rfl | hu
   · exact h.1.2
   · exact h2 u hu
 | [],_::_,h=>by simp [matchL] at h
 | _::_,[],h=>by simp [matchL] at h
theorem oneCell_of_VR {w:World} {L:Nat→Option Loc} {N:Nat} {a:AV} {v:Value} {S:List Nat} (h:VR w L N a v S) (hc:isCell a=true):v.oneCell'=true:=by
 cases a <;> simp only [isCell,Bool.false_eq_true] at hc <;> simp only [VR] at h
 · rw [h.1]; rfl
 · rw [h.1]; rfl
 · obtain ⟨⟨b,rfl,_⟩,_⟩:=h; rfl
 · rw [h.1]; rfl
 · rw [h.1]; rfl
 · exact h.1.2.1
 · obtain ⟨⟨_,_,_,rfl,_⟩,_⟩:=h; rfl
 · exact h.1.2.1
 · obtain ⟨⟨_,_,_,rfl,_⟩,_⟩:=h; rfl
 · obtain ⟨_,⟨rfl,_⟩ | ⟨_,_,_,_,_,_,_,rfl,_⟩⟩:=h <;> rfl
 · obtain ⟨⟨_,_,rfl,_⟩,_⟩:=h; rfl
 · exact h.1.2.1
theorem one_of_VRl {w:World} {L:Nat→Option Loc} {N:Nat} : ∀ {as:List AV} {vs:List Value} {S:List Nat},VRl w L N as vs S→as.all isCell=true→one vs
 | [],vs,S,h,_=>by simp only [VRl] at h; rw [h.1]; simp [one]
 | a::as,vs,S,h,hc=>by
   simp only [VRl] at h
   obtain ⟨v,vs',S1,S2,rfl,rfl,h1,h2⟩:=h
   simp only [List.all_cons,Bool.and_eq_true] at hc
   intro u hu
   rcases List.mem_cons.1 hu with rfl | hu
   · exact oneCell_of_VR h1 hc.1
   · exact one_of_VRl h2 hc.2 u hu
theorem VRl_cellsOf {w:World} {L:Nat→Option Loc} {N:Nat} {a:AV} {v:Value} {S:List Nat} (h:VR w L N a v S) (hc:(cellsOf a).all isCell=true) :
   VRl w L N (cellsOf a) v.cells.toList S∧one v.cells.toList:=by
 cases a
 case agg cs=>
   simp only [VR] at h
   obtain ⟨vs,rfl,h⟩:=h
   exact ⟨h,one_of_VRl h hc⟩
 all_goals
   have hone:=oneCell_of_VR h (by simpa [cellsOf] using hc)
   have hcell:v.cells = #[v]:=by cases v <;> first | rfl | (simp [Value.oneCell'] at hone)
   simp only [cellsOf,hcell]
   refine ⟨⟨v,[],S,[],rfl,by simp,h,rfl,rfl⟩,by simp [one,hone]⟩
def constA (P:Program) (t:TypeId) (v:Value):Option AV:=
 match v with
 | .int k n=>some (.int k n)
 | .bool b=>some (.bool b)
 | .string s=>if s.data.toList.length≤LIM then some (.str s.data.toList) else Option.none
 | .slice Option.none 0 0=>match P.underlying t with
   | some (.slice e)=>(P.info? e).map fun i => .nil i.size
   | _=>Option.none
 | .pointer Option.none=>some .nilp
 | _=>Option.none
def compX (P:Program) (t:TypeId):Operand→Option Opd
 | .tmp n=>some (.t n)
 | .const v=>(constA P t v).map .k
 | .func f=>some (.k (.fn (.func f) [] []))
 | .global _=>Option.none
section
variable {P:Program} {base:Nat} {w0 w:World} {L:Nat→Option Loc} {N:Nat} {F:Nat→List Nat} {h:Heap} {s:Nat→AV} {a:Act} {K:AV→Heap→Nat→Prop}
theorem constA_sound {t:TypeId} {v:Value} {x:AV} (hc:constA P t v=some x):VR w L N x v []:=by
 unfold constA at hc
 split at hc
 · cases hc; simp [VR]
 · cases hc; simp [VR]
 · split at hc
   · cases hc; simp only [VR]; exact ⟨⟨_,rfl,rfl,by assumption⟩,trivial⟩
   · cases hc
 · split at hc
   · simp only [Option.map_eq_some_iff] at hc; obtain ⟨i,_,rfl⟩:=hc; simp [VR]
   · cases hc
 · cases hc; simp [VR]
 · cases hc
theorem compX_sound {t:TypeId} {x:Operand} {y:Opd} (hc:compX P t x=some y) (hs:SRel w L N s a.tmps):VR w L N (ev s y) (a.eval x) []:=by
 unfold compX at hc
 split at hc
 · cases hc; exact hs _
 · simp only [Option.map_eq_some_iff] at hc; obtain ⟨z,hz,rfl⟩:=hc; exact constA_sound hz
 · cases hc; simp only [ev,Act.eval,VR,VRl]; exact ⟨⟨_,_,rfl,by simp⟩,trivial⟩
 · cases hc
theorem ok_mv {t:TypeId} {x:Operand} {y:Opd} (H:HRel base w0 w L N F [] h) (hs:SRel w L N s a.tmps) (hc:compX P t x=some y) {m:Sem Next} (hm:m=pure (.value (a.eval x)))
   (hK:aop P s h N K (.mv y)):Gives P m w (Post base w0 w L N K):=by
 subst hm
 exact .of_value rfl (Post.same H (compX_sound hc hs) hK)
theorem ok_pick {t:TypeId} {c x y:Operand} {c' x' y':Opd} (H:HRel base w0 w L N F [] h) (hs:SRel w L N s a.tmps) (h1:compX P t c=some c') (h2:compX P t x=some x') (h3:compX P t y=some y')
   (hK:aop P s h N K (.pick c' x' y')):Gives P (do pure (.value (if ←asBool (a.eval c) then a.eval x else a.eval y))) w (Post base w0 w L N K):=by
 have hv:=compX_sound h1 hs
 simp only [aop] at hK
 split at hK
 · rename_i b hb
   rw [hb] at hv
   simp only [VR] at hv
   rw [hv.1]
   cases b
   · exact .of_value (v:=a.eval y) (w':=w) (by simp [asBool]) (Post.same H (compX_sound h3 hs) (hK.2 rfl))
   · exact .of_value (v:=a.eval x) (w':=w) (by simp [asBool]) (Post.same H (compX_sound h2 hs) (hK.1 rfl))
 · exact hK.elim
end
open Go Go.RowKit
def aggB (P:Program) (t:TypeId):Option Bool:=
 match P.underlying t with
 | some (.struct _) | some (.array ..)=>some true
 | some _=>some false
 | Option.none=>Option.none
section
variable {P:Program} {base:Nat} {w0 w:World} {L:Nat→Option Loc} {N:Nat} {F:Nat→List Nat} {h:Heap} {s:Nat→AV} {a:Act} {K:AV→Heap→Nat→Prop}
theorem run_isAgg {t:TypeId} {b:Bool} (hb:aggB P t=some b) (w:World):(isAgg t).run P w = .ok b w:=by
 unfold aggB at hb
 split at hb <;> first | cases hb | skip
 · simp [isAgg,run_underlying (by assumption)]
 · simp [isAgg,run_underlying (by assumption)]
 · rename_i d h1 h2 hd
   simp only [isAgg,Sem.run_bind,run_underlying hd,Result.andThen_ok]
   first | rfl | (split <;> first | exact absurd rfl (h1 _) | exact absurd rfl (h2 _ _) | rfl)
theorem run_sizeOf {t:TypeId} {i:TypeInfo} (hi:P.info? t=some i) (w:World):(sizeOf t).run P w = .ok i.size w:=by simp [sizeOf,typeInfo,hi]
theorem addr_add (b o j:Nat):(⟨b,o,Option.none⟩:Addr).add j=⟨b,o+j,Option.none⟩:=by unfold Addr.add; split <;> simp_all
theorem run_loadVar {t:TypeId} {i:TypeInfo} {g:Bool} (hg:aggB P t=some g) (hi:P.info? t=some i) {b x:Nat} {vals:List Value} (hl:vals.length=i.size) (h1:g=false→vals.length=1)
   (hc:cellsAt w b x vals):(loadVar t ⟨b,x,Option.none⟩).run P w = .ok (if g then .agg vals.toArray else vals.getD 0 undef) w:=by
 cases g
 · obtain ⟨v,rfl⟩:=List.length_eq_one_iff.1 (h1 rfl)
   have:=hc 0 v rfl
   simp only [loadVar,Sem.run_bind,run_isAgg hg,Result.andThen_ok,Bool.false_eq_true,if_false,load,Sem.run]
   simp only [Nat.add_zero] at this
   rw [this]; rfl
 · simp only [loadVar,Sem.run_bind,run_isAgg hg,Result.andThen_ok,if_true,run_sizeOf hi,←hl]
   rw [run_loadCells_list (P:=P) w ⟨b,x,Option.none⟩ vals (fun j v hj=>by rw [addr_add]; exact hc j v hj)]
   simp
theorem VRl_sub {as:List AV} {vs:List Value} (c n:Nat) (hv:VRl w L N as vs []):VRl w L N ((as.drop c).take n) ((vs.drop c).take n) []:=by
 induction as generalizing vs c n with
 | nil=>simp only [VRl] at hv; rw [hv.1]; simp [VRl]
 | cons a as ih=>
   obtain ⟨v,vs',rfl,h1,h2⟩:=VRl_nil_cons.1 hv
   cases c with
   | succ c=>simpa using ih c n h2
   | zero=>
     cases n with
     | zero=>simp [VRl]
     | succ n=>
       have:=ih 0 n h2
       simp only [List.drop_zero] at this ⊢
       simp only [List.take_succ_cons]
       exact VRl_nil_cons.2 ⟨v,_,rfl,h1,this⟩
theorem cellsAt_sub {b x:Nat} {vs:List Value} (c n:Nat) (hc:cellsAt w b x vs):cellsAt w b (x+c) ((vs.drop c).take n):=by
 intro j v hj
 rw [List.getElem?_take] at hj
 split at hj
 · rw [List.getElem?_drop] at hj
   rw [Nat.add_assoc]; exact hc _ v hj
 · cases hj
theorem ldv_raw {row:List AV} {vals:List Value} {b o c sz:Nat} {g:Bool} {x:AV} {t:TypeId} {i:TypeInfo} (hg:aggB P t=some g) (hi:P.info? t=some i) (hsz:i.size=sz)
   (hv:VRl w L N row vals []) (hc:cellsAt w b o vals) (hl:ldv true g row c sz=some x) :
   ∃ v,(loadVar t ⟨b,o+c,Option.none⟩).run P w = .ok v w∧VR w L N x v []:=by
 unfold ldv at hl
 split at hl
 · rename_i hle
   have hlen:=VRl_length hv
   have hsub:=VRl_sub c sz hv
   have hcs:=cellsAt_sub c sz hc
   have hvl:((vals.drop c).take sz).length=i.size:=by rw [List.length_take,List.length_drop,hlen,hsz]; omega
   cases g
   · simp only [Bool.false_eq_true,if_false,if_true] at hl
     split at hl
     · rename_i h1
       rw [run_loadVar hg hi hvl (fun _=>by rw [hvl,hsz,h1]) hcs]
       refine ⟨_,rfl,?_⟩
       split at hl
       · rename_i y hy
         cases hl
         obtain ⟨v,hv',hr⟩:=VRl_get_nil hv hy
         have:((vals.drop c).take sz).getD 0 undef=v:=by
           rw [List.getD_eq_getElem?_getD,List.getElem?_take_of_lt (by omega),List.getElem?_drop,Nat.add_zero,hv']; rfl
         simp only [Bool.false_eq_true,if_false,this]; exact hr
       · cases hl
     · cases hl
   · simp only [if_true,Option.some.injEq] at hl
     subst hl
     rw [run_loadVar hg hi hvl (by simp) hcs]
     exact ⟨_,rfl,by simp only [if_true,VR]; exact ⟨_,rfl,hsub⟩⟩
 · cases hl
theorem ldv_dr {row:List AV} {c sz:Nat} {g:Bool} {x:AV} (hl:ldv false g row c sz=some x):ldv true g (drl row) c sz=some x:=by
 unfold ldv at hl ⊢
 have hd:(drl row).length=row.length:=by rw [drl_eq]; simp
 rw [hd]
 split at hl
 · rename_i hle
   rw [if_pos hle]
   cases g
   · simp only [Bool.false_eq_true,if_false,if_true] at hl ⊢
     split at hl
     · rename_i h1
       rw [if_pos h1,drl_eq,List.getElem?_map]
       split at hl
       · rename_i y hy; rw [hy]; exact hl
       · cases hl
     · cases hl
   · simp only [Bool.false_eq_true,if_false,if_true] at hl ⊢
     rw [←hl,drl_eq,drl_eq,List.map_take,List.map_drop]
 · cases hl
theorem row_cells {b sz:Nat} : ∀ (rows:List (List AV)) (o:Nat) (vals:List Value) (S:List Nat) (r:Nat),(∀ x∈rows,x.length=sz)→VRr w L N rows vals S→cellsAt w b o vals→r<rows.length →
   ∃ vs S',VRl w L N (rowD rows r) vs S'∧cellsAt w b (o+r*sz) vs∧(∀ x∈S',x∈S)
 | [],_,_,_,r,_,_,_,hr=>by simp at hr
 | x::rows,o,vals,S,r,hsz,hv,hc,hr=>by
   simp only [VRr] at hv
   obtain ⟨v1,v2,S1,S2,rfl,rfl,h1,h2⟩:=hv
   have hl1:v1.length=sz:=by rw [VRl_length h1]; exact hsz x (by simp)
   cases r with
   | zero=>
     refine ⟨v1,S1,h1,?_,fun y hy=>by simp [hy]⟩
     intro j v hj
     rw [Nat.zero_mul,Nat.add_zero]
     exact hc j v (by rw [List.getElem?_append_left (List.getElem?_eq_some_iff.1 hj).1]; exact hj)
   | succ r=>
     obtain ⟨vs,S',g1,g2,g3⟩:=row_cells rows (o+sz) v2 S2 r (fun y hy=>hsz y (by simp [hy])) h2 (by
       intro j v hj
       rw [Nat.add_assoc]
       exact hc (sz+j) v (by rw [List.getElem?_append_right (by omega),hl1,Nat.add_sub_cancel_left]; exact hj)) (by simpa using hr)
     refine ⟨vs,S',g1,?_,fun y hy=>by simp [g3 y hy]⟩
     rw [Nat.succ_mul,Nat.add_comm (r*sz) sz,←Nat.add_assoc]; exact g2
theorem HRel.row (H:HRel base w0 w L N F [] h) {id r c:Nat} {B:Blk} {v:Value} (hB:h id=some B) (hv:VR w L N (.ptr id r c) v []) (hr:r<B.rows.length) :
   ∃ b o vs S',v = .pointer (some ⟨b,o+c,Option.none⟩)∧VRl w L (if B.box then N else 0) (rowD B.rows r) vs S'∧cellsAt w b o vs∧(B.box=true→S'=[]):=by
 cases hl:L id with
 | none=>rw [H.mod id hl] at hB; cases hB
 | some l=>
   simp only [VR] at hv
   have hp:=hv.1.2.2 l hl
   have hbr:=H.blk id B l hB hl
   cases l with
   | none=>exact hp.elim
   | «at» b sz cap=>
     obtain ⟨rfl,h0,cur,t,vals,rest,h1,h2,h3,h4,h5,h6,h7,h8,h9,h10⟩:=hbr.cells hp.2
     obtain ⟨vs,S',g1,g2,g3⟩:=row_cells B.rows 0 vals _ r h8 h10 (by
       have:=cells_of_row (w:=w) (pre:=[]) (vals:=vals) (rest:=rest) h1 (by simpa using h2)
       simpa using this) hr
     refine ⟨b,r*B.sz,vs,S',hp.1,g1,by simpa using g2,fun hb => ?_⟩
     rw [h0 hb] at g3
     exact List.eq_nil_iff_forall_not_mem.2 fun y hy=>by simpa using g3 y hy
theorem ok_ld {t:TypeId} {x:Operand} {x':Opd} {g:Bool} {i:TypeInfo} {sz:Nat} (H:HRel base w0 w L N F [] h) (hs:SRel w L N s a.tmps) (hx:∃ t',compX P t' x=some x')
   (hg:aggB P t=some g) (hi:P.info? t=some i) (hsz:i.size=sz) (hK:aop P s h N K (.ld g sz x')) :
   Gives P (do pure (.value (←Instr.loadAt t (a.eval x)))) w (Post base w0 w L N K):=by
 obtain ⟨t',hx⟩:=hx
 have hv:=compX_sound hx hs
 simp only [aop] at hK
 split at hK
 · rename_i id r c hev
   rw [hev] at hv
   unfold onO at hK
   split at hK
   · rename_i B hB
     obtain ⟨hr,hK⟩:=hK
     split at hK
     · rename_i y hy
       obtain ⟨b,o,vs,S',he,g1,g2,g3⟩:=H.row hB hv hr
       have key:∃ v,(loadVar t ⟨b,o+c,Option.none⟩).run P w = .ok v w∧VR w L N y v []:=by
         cases hbox:B.box
         · rw [hbox] at hy g1
           simp only [Bool.false_eq_true,if_false] at g1
           obtain ⟨v,e1,e2⟩:=ldv_raw (P:=P) (L:=L) (N:=0) hg hi hsz (VRl_dr _ _ _ g1) g2 (ldv_dr hy)
           exact ⟨v,e1,VR_ext ⟨Nat.zero_le _,fun _ _ hid=>absurd hid (Nat.not_lt_zero _),Nat.le_refl _,fun _ _ h=>⟨rfl,h⟩⟩ _ _ _ e2⟩
         · rw [hbox] at hy g1
           simp only [if_true] at g1
           rw [g3 hbox] at g1
           exact ldv_raw hg hi hsz g1 g2 hy
       obtain ⟨v,e1,e2⟩:=key
       refine .of_value (v:=v) (w':=w) ?_ (Post.same H e2 hK)
       rw [he]; simp [Instr.loadAt,Instr.sureAddr,e1]
     · exact hK.elim
   · exact hK.elim
 · rename_i row c hev
   rw [hev] at hv
   unfold onO at hK
   split at hK
   · rename_i y hy
     simp only [VR] at hv
     obtain ⟨⟨b,o,vals,he,ho,hb,hc,h1,hr⟩,_⟩:=hv
     obtain ⟨v,e1,e2⟩:=ldv_raw (P:=P) (L:=L) (N:=0) hg hi hsz hr hc hy
     refine .of_value (v:=v) (w':=w) ?_ (Post.same H (VR_ext ⟨Nat.zero_le _,fun _ _ hid=>absurd hid (Nat.not_lt_zero _),Nat.le_refl _,fun _ _ h=>⟨rfl,h⟩⟩ _ _ _ e2) hK)
     rw [he]; simp [Instr.loadAt,Instr.sureAddr,e1]
   · exact hK.elim
 · exact hK.elim
theorem HRel.newBox (H:HRel base w0 w L N F [] h) {cs:List AV} {vals:List Value} {t:TypeId} (hv:VRl w L N cs vals []) (h1:one vals) (hpos:0<cs.length) :
   ∃ L' F',HRel base w0 (w.alloc (.cells vals.toArray t)) L' (N+1) F' [] (upd h N (some ⟨true,cs.length,[cs]⟩)) ∧
     VR (w.alloc (.cells vals.toArray t)) L' (N+1) (.ptr N 0 0) (.pointer (some ⟨w.heap.size,0,Option.none⟩)) []∧Ext w L N (w.alloc (.cells vals.toArray t)) L' (N+1):=by
 have hLN:L N=Option.none:=by
   cases hl:L N with
   | none=>rfl
   | some l=>exact absurd (H.lt N l hl) (Nat.lt_irrefl _)
 have hlen:=VRl_length hv
 have hcl:cs.length≤maxLen∨True := .inr trivial
 obtain ⟨g1,g2⟩:=H.chg (w':=w.alloc (.cells vals.toArray t)) (N':=N+1) (E':=[]) N N ⟨true,cs.length,[cs]⟩ (.at w.heap.size cs.length 1) [] (by omega) (by omega) (.inl rfl) (fun hlt=>absurd hlt (Nat.lt_irrefl _))
   ((Below.refl base w).alloc H.bsz _) (fun b hb _=>heap_alloc_old w _ _ hb) (fun b sz cap he=>by cases he; exact ⟨H.bsz,by simp,.inr (Nat.le_refl _)⟩)
   (fun L' e hL'=>BRel.of ⟨rfl,fun _=>rfl,vals.toArray,t,vals,[],heap_alloc_new w _,by simp,by simp [hlen],hpos,by decide,by simp,by simp [LIM],by simp,h1,by
     simp only [if_true]
     exact VRr_iff.2 (by simpa using VRl_ext e _ _ _ hv)⟩) (by simp) (by simp)
 refine ⟨upd (upd L N Option.none) N (some (.at w.heap.size cs.length 1)),upd (upd F N []) N [],?_,?_,g2⟩
 · have:upd (upd h N Option.none) N (some ⟨true,cs.length,[cs]⟩)=upd h N (some ⟨true,cs.length,[cs]⟩):=by funext i; simp only [upd]; split <;> rfl
   rw [←this]; exact g1
 · simp only [VR]
   refine ⟨⟨by omega,rfl,?_⟩,trivial⟩
   intro l hl
   rw [upd_same] at hl; cases hl
   exact ⟨by simp,hpos⟩
theorem ok_boxv {t:TypeId} {x:Operand} {x':Opd} (H:HRel base w0 w L N F [] h) (hs:SRel w L N s a.tmps) (hx:compX P t x=some x')
   (hK:aop P s h N K (.boxv x')):Gives P (do pure (.value (←Instr.box t (a.eval x)))) w (Post base w0 w L N K):=by
 have hv:=compX_sound hx hs
 obtain ⟨hpos,hcell,hK⟩:=hK
 obtain ⟨hl,h1⟩:=VRl_cellsOf hv hcell
 obtain ⟨L',F',g1,g2,g3⟩:=H.newBox (t:=t) hl h1 hpos
 rw [Array.toArray_toList] at g1 g2 g3
 exact .of_value (v := .pointer (some ⟨w.heap.size,0,Option.none⟩)) (w':=w.alloc (.cells (a.eval x).cells t)) (by simp [Instr.box,newVar,newRow]) ⟨_,_,_,_,_,g1,g3,g2,hK⟩
theorem ok_box {t:TypeId} {z:List AV} {i:TypeInfo} {v:Value} (H:HRel base w0 w L N F [] h) (hi:P.info? t=some i) (hz:i.zero=some v) (hm:matchL z v.cells.toList=true) (hpos:0<z.length)
   (hK:aop P s h N K (.box z)):Gives P (do pure (.value (←Instr.alloc t true (.tuple #[])))) w (Post base w0 w L N K):=by
 obtain ⟨hl,h1⟩:=VRl_matchL (w:=w) (L:=L) (N:=N) hm
 obtain ⟨L',F',g1,g2,g3⟩:=H.newBox (t:=t) hl h1 hpos
 rw [Array.toArray_toList] at g1 g2 g3
 exact .of_value (v := .pointer (some ⟨w.heap.size,0,Option.none⟩)) (w':=w.alloc (.cells v.cells t)) (by simp [Instr.alloc,zeroValue,typeInfo,hi,hz,newVar,newRow]) ⟨_,_,_,_,_,g1,g3,g2,hK⟩
end
open Go Go.RowKit
section
variable {P:Program} {base:Nat} {w0 w:World} {L:Nat→Option Loc} {N:Nat} {F:Nat→List Nat} {h:Heap} {s:Nat→AV} {a:Act} {K:AV→Heap→Nat→Prop}
theorem VR_bool {x:AV} {v:Value} {b:Bool} (hx:x = .bool b) (hv:VR w L N x v []):v = .bool b:=by subst hx; simp only [VR] at hv; exact hv.1
theorem VR_int {x:AV} {v:Value} {k:IntKind} {n:Int} (hx:x = .int k n) (hv:VR w L N x v []):v = .int k n:=by subst hx; simp only [VR] at hv; exact hv.1
theorem VR_str {x:AV} {v:Value} {l:List UInt8} (hx:x = .str l) (hv:VR w L N x v []):∃ b:ByteArray,v = .string b∧b.data.toList=l∧l.length≤LIM:=by subst hx; simp only [VR] at hv; exact hv.1
theorem mk_int (k:IntKind) (n:Int):VR w L N (.int k n) (.int k n) []:=by simp [VR]
theorem mk_bool (b:Bool):VR w L N (.bool b) (.bool b) []:=by simp [VR]
theorem mk_str {b:ByteArray} {l:List UInt8} (h:b.data.toList=l) (hl:l.length≤LIM):VR w L N (.str l) (.string b) []:=by simp only [VR]; exact ⟨⟨b,rfl,h,hl⟩,trivial⟩
theorem asI_some {x:AV} {v:Value} {n:Int} (hx:asI x=some n) (hv:VR w L N x v []):∃ k,v = .int k n:=by
 cases x <;> simp only [asI,reduceCtorEq,Option.some.injEq] at hx
 subst hx; simp only [VR] at hv; exact ⟨_,hv.1⟩
theorem ok_nchk {x:Operand} {x':Opd} (H:HRel base w0 w L N F [] h) (hs:SRel w L N s a.tmps) (hx:∃ t,compX P t x=some x')
   (hK:aop P s h N K (.nchk x')) {m:Sem Next} (hm:∀ b o,a.eval x = .pointer (some ⟨b,o,Option.none⟩)→m=pure (.value (a.eval x))):Gives P m w (Post base w0 w L N K):=by
 obtain ⟨t,hx⟩:=hx
 have hv:=compX_sound hx hs
 simp only [aop] at hK
 split at hK
 · rename_i id r c hev
   rw [hev] at hv
   obtain ⟨hal,hK⟩:=hK
   have hv':=hv
   simp only [VR] at hv'
   cases hl:L id with
   | none=>rw [H.mod id hl] at hal; cases hal
   | some l=>
     have hp:=hv'.1.2.2 l hl
     cases l with
     | none=>exact hp.elim
     | «at» b sz cap=>
       rw [hm _ _ hp.1]
       exact .of_value rfl (Post.same H hv hK)
 · rename_i row c hev
   rw [hev] at hv
   have hv':=hv
   simp only [VR] at hv'
   obtain ⟨⟨b,o,vals,he,_⟩,_⟩:=hv'
   rw [hm _ _ he]
   exact .of_value rfl (Post.same H hv hK)
 · exact hK.elim
theorem ok_fld {t:TypeId} {x:Operand} {x':Opd} {f:Nat} {fields:Array Field} {fd:Field} {i:TypeInfo} (H:HRel base w0 w L N F [] h) (hs:SRel w L N s a.tmps) (hx:∃ t,compX P t x=some x')
   (ht:P.underlying t=some (.struct fields)) (hf:fields[f]? = some fd) (hi:P.info? fd.type=some i) (hsz:i.size≠0)
   (hK:aop P s h N K (.fld fd.offset x')):Gives P (do pure (.value (←Instr.fieldAt t (a.eval x) f))) w (Post base w0 w L N K):=by
 obtain ⟨t',hx⟩:=hx
 have hv:=compX_sound hx hs
 have run:∀ b o,a.eval x = .pointer (some ⟨b,o,Option.none⟩)→(Instr.fieldAt t (a.eval x) f).run P w = .ok (.pointer (some ⟨b,o+fd.offset,Option.none⟩)) w:=fun b o he=>by
   simp [Instr.fieldAt,run_underlying ht,hf,he,Instr.sureAddr,fieldPlace,sizeOf,typeInfo,hi,hsz,addr_add]
 simp only [aop] at hK
 split at hK
 · rename_i id r c hev
   rw [hev] at hv
   obtain ⟨hal,hK⟩:=hK
   simp only [VR] at hv
   cases hl:L id with
   | none=>rw [H.mod id hl] at hal; cases hal
   | some l=>
     have hp:=hv.1.2.2 l hl
     cases l with
     | none=>exact hp.elim
     | «at» b sz cap=>
       refine .of_value (v := .pointer (some ⟨b,r*sz+c+fd.offset,Option.none⟩)) (w':=w) (by simp [run _ _ hp.1]) (Post.same H ?_ hK)
       simp only [VR]
       refine ⟨⟨hv.1.1,rfl,fun l' hl' => ?_⟩,trivial⟩
       rw [hl] at hl'; cases hl'
       exact ⟨by simp [Nat.add_assoc],hp.2⟩
 · rename_i row c hev
   rw [hev] at hv
   simp only [VR] at hv
   obtain ⟨⟨b,o,vals,he,rest⟩,_⟩:=hv
   refine .of_value (v := .pointer (some ⟨b,o+c+fd.offset,Option.none⟩)) (w':=w) (by simp [run _ _ he]) (Post.same H ?_ hK)
   simp only [VR]
   exact ⟨⟨b,o,vals,by rw [Nat.add_assoc],rest⟩,trivial⟩
 · exact hK.elim
theorem ok_prt {t:TypeId} {x:Operand} {x':Opd} {f:Nat} {fields:Array Field} {fd:Field} {i:TypeInfo} {g:Bool} (H:HRel base w0 w L N F [] h) (hs:SRel w L N s a.tmps) (hx:∃ t,compX P t x=some x')
   (ht:P.underlying t=some (.struct fields)) (hf:fields[f]? = some fd) (hg:aggB P fd.type=some g) (hi:P.info? fd.type=some i)
   (hK:aop P s h N K (.prt g fd.offset i.size x')):Gives P (do pure (.value (←Instr.field t (a.eval x) f))) w (Post base w0 w L N K):=by
 obtain ⟨t',hx⟩:=hx
 have hv:=compX_sound hx hs
 simp only [aop] at hK
 split at hK
 · rename_i cs hev
   rw [hev] at hv
   simp only [VR] at hv
   obtain ⟨vs,he,hl⟩:=hv
   unfold onO at hK
   split at hK
   · rename_i y hy
     unfold ldv at hy
     split at hy
     · rename_i hle
       cases g
       · simp only [Bool.false_eq_true,if_false,if_true] at hy
         split at hy
         · split at hy
           · rename_i z hz
             cases hy
             obtain ⟨v,hv',hr⟩:=VRl_get_nil hl hz
             rw [Array.getElem?_toList] at hv'
             refine .of_value (v:=v) (w':=w) ?_ (Post.same H hr hK)
             simp [Instr.field,run_underlying ht,hf,he,asAgg,part,run_isAgg hg,hv']
           · cases hy
         · cases hy
       · simp only [if_true,Option.some.injEq] at hy
         subst hy
         refine .of_value (v := .agg (vs.extract fd.offset (fd.offset+i.size))) (w':=w) ?_ (Post.same H ?_ hK)
         · simp [Instr.field,run_underlying ht,hf,he,asAgg,part,run_isAgg hg,sizeOf,typeInfo,hi]
         · simp only [VR]
           refine ⟨_,rfl,?_⟩
           have:=VRl_sub fd.offset i.size hl
           simpa [Array.toList_extract,List.extract_eq_take_drop,Nat.add_sub_cancel_left] using this
     · cases hy
   · exact hK.elim
 · exact hK.elim
theorem ok_ixa {t e:TypeId} {x y:Operand} {x' y':Opd} {i:TypeInfo} (H:HRel base w0 w L N F [] h) (hs:SRel w L N s a.tmps) (hx:∃ t,compX P t x=some x') (hy:∃ t,compX P t y=some y')
   (ht:P.underlying t=some (.slice e)) (hi:P.info? e=some i)
   (hK:aop P s h N K (.ixa i.size x' y')):Gives P (do pure (.value (←Instr.indexAt t (a.eval x) (a.eval y)))) w (Post base w0 w L N K):=by
 obtain ⟨t1,hx⟩:=hx
 obtain ⟨t2,hy⟩:=hy
 have hv:=compX_sound hx hs
 have hu:=compX_sound hy hs
 have run:∀ b o len cap k (j:Int),a.eval x = .slice (some ⟨b,o,Option.none⟩) len cap→a.eval y = .int k j→0≤j→j<len →
     (Instr.indexAt t (a.eval x) (a.eval y)).run P w = .ok (.pointer (some ⟨b,o+j.toNat*i.size,Option.none⟩)) w:=fun b o len cap k j he hj h0 h1=>by
   simp [Instr.indexAt,asIntOf,run_underlying ht,he,hj,h0,h1,sizeOf,typeInfo,hi,addr_add]
 simp only [aop] at hK
 split at hK
 · rename_i sz' rows j hev hj
   rw [hev] at hv
   obtain ⟨k,hj'⟩:=asI_some hj hu
   obtain ⟨rfl,h0,h1,hK⟩:=hK
   simp only [VR] at hv
   obtain ⟨⟨A,cap,vals,he,hlim,hr,hb⟩,_⟩:=hv
   rcases hb with rfl | ⟨b,o,rfl,ho,hb,hsz,hc,hone⟩
   · simp at h1; omega
   · have hlt:j.toNat<rows.length:=by omega
     obtain ⟨vs,S',g1,g2,g3⟩:=row_cells rows o vals [] j.toNat hsz hr hc hlt
     have hS:S'=[]:=List.eq_nil_iff_forall_not_mem.2 fun y hy=>by simpa using g3 y hy
     subst hS
     refine .of_value (v := .pointer (some ⟨b,o+j.toNat*i.size,Option.none⟩)) (w':=w) (by simp [run _ _ _ _ _ _ he hj' h0 h1]) (Post.same H ?_ hK)
     simp only [VR]
     refine ⟨⟨b,o+j.toNat*i.size,vs,by simp,ho,hb,g2,?_,g1⟩,trivial⟩
     intro v hvm
     obtain ⟨q,hq⟩:=List.mem_iff_getElem?.1 hvm
     have h2:=g2 q v hq
     have hlen:vals.length=rows.length*i.size:=VRr_length hsz hr
     have hvl:vs.length=i.size:=by rw [VRl_length g1]; exact hsz _ (by unfold rowD; rw [List.getD_eq_getElem?_getD,List.getElem?_eq_getElem hlt]; exact List.getElem_mem _)
     have hq':=(List.getElem?_eq_some_iff.1 hq).1
     have hbound:j.toNat*i.size+q<vals.length:=by
       rw [hlen]
       calc j.toNat*i.size+q<j.toNat*i.size+i.size:=by omega
         _=(j.toNat+1)*i.size:=by rw [Nat.add_mul,Nat.one_mul]
         _≤rows.length*i.size:=Nat.mul_le_mul_right _ (by omega)
     have h3:=hc (j.toNat*i.size+q) _ (List.getElem?_eq_getElem hbound)
     rw [Nat.add_assoc] at h2
     rw [h2] at h3
     cases h3
     exact hone _ (List.getElem_mem _)
 · rename_i id off len j hev hj
   rw [hev] at hv
   obtain ⟨k,hj'⟩:=asI_some hj hu
   obtain ⟨h0,h1,hK⟩:=hK
   unfold onO at hK
   split at hK
   · rename_i B hB
     obtain ⟨hsz,hK⟩:=hK
     simp only [VR] at hv
     cases hl:L id with
     | none=>rw [H.mod id hl] at hB; cases hB
     | some l=>
       have hp:=hv.1.2.2 l hl
       have hbr:=H.blk id B l hB hl
       cases l with
       | none=>obtain ⟨_,_,h2,_⟩:=hp; omega
       | «at» b sz cap=>
         obtain ⟨rfl,_⟩:=hbr
         obtain ⟨_,A,he,hA,hcap⟩:=hp
         rw [hA (.inl (by omega))] at he
         refine .of_value (v := .pointer (some ⟨b,off*B.sz+j.toNat*i.size,Option.none⟩)) (w':=w) (by simp [run _ _ _ _ _ _ he hj' h0 h1]) (Post.same H ?_ hK)
         simp only [VR]
         refine ⟨⟨hv.1.1,rfl,fun l' hl' => ?_⟩,trivial⟩
         rw [hl] at hl'; cases hl'
         exact ⟨by simp [←hsz,Nat.add_mul],hcap.2⟩
   · exact hK.elim
 · exact hK.elim
theorem ok_ixs {t:TypeId} {x y:Operand} {x' y':Opd} (H:HRel base w0 w L N F [] h) (hs:SRel w L N s a.tmps) (hx:∃ t,compX P t x=some x') (hy:∃ t,compX P t y=some y')
   (ht:P.underlying t=some .string)
   (hK:aop P s h N K (.ixs x' y')):Gives P (do pure (.value (←Instr.index t (a.eval x) (a.eval y)))) w (Post base w0 w L N K):=by
 obtain ⟨t1,hx⟩:=hx
 obtain ⟨t2,hy⟩:=hy
 have hv:=compX_sound hx hs
 have hu:=compX_sound hy hs
 simp only [aop] at hK
 split at hK
 · rename_i l j hev hj
   obtain ⟨k,hj'⟩:=asI_some hj hu
   obtain ⟨b,he,hb,hlim⟩:=VR_str hev hv
   obtain ⟨h0,h1,hK⟩:=hK
   have hlt:j.toNat<b.size:=by rw [←ByteArray.size_data,←Array.length_toList,hb]; omega
   have hget:b[j.toNat]? = some (l.getD j.toNat 0):=by
     rw [List.getD_eq_getElem?_getD,←hb,Array.getElem?_toList]
     rw [getElem?_pos b j.toNat hlt]
     have h2:j.toNat<b.data.size:=by simpa using hlt
     rw [Array.getElem?_eq_getElem h2]; rfl
   refine .of_value (v := .int .u8 (l.getD j.toNat 0).toNat) (w':=w) ?_ (Post.same H (mk_int _ _) hK)
   simp [Instr.index,asIntOf,run_underlying ht,he,hj',h0,hget]
 · exact hK.elim
theorem ok_ext {x:Operand} {x':Opd} {j:Nat} (H:HRel base w0 w L N F [] h) (hs:SRel w L N s a.tmps) (hx:∃ t,compX P t x=some x')
   (hK:aop P s h N K (.ext x' j)):Gives P (do pure (.value (←Instr.extract (a.eval x) j))) w (Post base w0 w L N K):=by
 obtain ⟨t,hx⟩:=hx
 have hv:=compX_sound hx hs
 simp only [aop] at hK
 split at hK
 · rename_i vs hev
   rw [hev] at hv
   simp only [VR] at hv
   obtain ⟨us,he,hl⟩:=hv
   unfold onO at hK
   split at hK
   · rename_i y hy
     obtain ⟨v,hv',hr⟩:=VRl_get_nil hl hy
     rw [Array.getElem?_toList] at hv'
     refine .of_value (v:=v) (w':=w) ?_ (Post.same H hr hK)
     simp [Instr.extract,he,hv']
   · exact hK.elim
 · exact hK.elim
theorem ok_un {t:TypeId} {op:UnOp} {x:Operand} {x':Opd} (H:HRel base w0 w L N F [] h) (hs:SRel w L N s a.tmps) (hx:compX P t x=some x')
   (hK:aop P s h N K (.un op x')):Gives P (do pure (.value (←Op.unary op (a.eval x)))) w (Post base w0 w L N K):=by
 have hv:=compX_sound hx hs
 simp only [aop] at hK
 split at hK
 · rename_i b hev
   rw [VR_bool hev hv]
   exact .of_value (v := .bool (!b)) (w':=w) (by simp [Op.unary]) (Post.same H (mk_bool _) hK)
 · rename_i k n hev
   rw [VR_int hev hv]
   exact .of_value (v := .int k (k.wrap (0 - n))) (w':=w) (by simp [Op.unary,Op.intArith]) (Post.same H (mk_int _ _) hK)
 · exact hK.elim
theorem ok_cvi {src dst t:TypeId} {x:Operand} {x':Opd} {k:IntKind} (H:HRel base w0 w L N F [] h) (hs:SRel w L N s a.tmps) (hx:compX P t x=some x')
   (h1:∃ d,P.underlying src=some d) (h2:P.underlying dst=some (.int k))
   (hK:aop P s h N K (.cvi k x')):Gives P (do pure (.value (←convert src dst (a.eval x)))) w (Post base w0 w L N K):=by
 have hv:=compX_sound hx hs
 obtain ⟨d,h1⟩:=h1
 simp only [aop] at hK
 unfold onO at hK
 split at hK
 · rename_i n hn
   obtain ⟨k',he⟩:=asI_some hn hv
   rw [he]
   exact .of_value (v := .int k (k.wrap n)) (w':=w) (by simp [convert,run_underlying h1,run_underlying h2,Conv.intToInt]) (Post.same H (mk_int _ _) hK)
 · exact hK.elim
theorem ok_mkf {f:Fn} {fi ca:Array Operand} {fi' ca':List Opd} (H:HRel base w0 w L N F [] h)
   (h1:VRl w L N (fi'.map (ev s)) (fi.map a.eval).toList []) (h2:VRl w L N (ca'.map (ev s)) (ca.map a.eval).toList [])
   (hK:aop P s h N K (.mkf f fi' ca')):Gives P (do pure (.value (←Instr.makeFunc f (fi.map a.eval) (ca.map a.eval)))) w (Post base w0 w L N K):=by
 simp only [aop] at hK
 exact .of_value (v := .func f (fi.map a.eval) (ca.map a.eval)) (w':=w) (by simp [Instr.makeFunc]) (Post.same H (by simp only [VR]; exact ⟨⟨_,_,rfl,h1,h2⟩,trivial⟩) hK)
theorem ok_lens {t:TypeId} {x:Operand} {x':Opd} {ty:TypeId} (H:HRel base w0 w L N F [] h) (hs:SRel w L N s a.tmps) (hx:∃ t,compX P t x=some x')
   (ht:P.underlying t=some .string)
   (hK:aop P s h N K (.len true x')):Gives P (do pure (.value (←Builtin.len_ #[t] ty #[a.eval x]))) w (Post base w0 w L N K):=by
 obtain ⟨t',hx⟩:=hx
 have hv:=compX_sound hx hs
 simp only [aop] at hK
 split at hK
 · rename_i l _ hev
   obtain ⟨b,he,hb,hlim⟩:=VR_str hev hv
   refine .of_value (v := .int .i64 l.length) (w':=w) ?_ (Post.same H (mk_int _ _) (hK hlim))
   have:(b.size:Int)=l.length:=by rw [←hb]; simp
   simp [Builtin.len_,run_underlying ht,he,goInt,this]
 · rename_i hb _; cases hb
 · rename_i hb _; cases hb
 · rename_i hb _; cases hb
 · exact hK.elim
theorem ok_lenl {t e:TypeId} {x:Operand} {x':Opd} {ty:TypeId} (H:HRel base w0 w L N F [] h) (hs:SRel w L N s a.tmps) (hx:∃ t,compX P t x=some x')
   (ht:P.underlying t=some (.slice e))
   (hK:aop P s h N K (.len false x')):Gives P (do pure (.value (←Builtin.len_ #[t] ty #[a.eval x]))) w (Post base w0 w L N K):=by
 obtain ⟨t',hx⟩:=hx
 have hv:=compX_sound hx hs
 have run:∀ A n c,a.eval x = .slice A n c→(Builtin.len_ #[t] ty #[a.eval x]).run P w = .ok (.int .i64 n) w:=fun A n c he=>by
   simp [Builtin.len_,run_underlying ht,he,goInt]
 simp only [aop] at hK
 split at hK
 · rename_i hb _; cases hb
 · rename_i sz rows _ hev
   rw [hev] at hv
   simp only [VR] at hv
   obtain ⟨⟨A,cap,vals,he,⟨hlim,_⟩,_⟩,_⟩:=hv
   exact .of_value (v := .int .i64 rows.length) (w':=w) (by simp [run _ _ _ he]) (Post.same H (mk_int _ _) (hK hlim))
 · rename_i id off len _ hev
   rw [hev] at hv
   obtain ⟨hal,hK⟩:=hK
   simp only [VR] at hv
   cases hl:L id with
   | none=>rw [H.mod id hl] at hal; cases hal
   | some l=>
     have hp:=hv.1.2.2 l hl
     cases l with
     | none=>
       obtain ⟨hlim,_,_,he⟩:=hp
       have:len=0:=by assumption
       subst this
       exact .of_value (v := .int .i64 (0:Nat)) (w':=w) (by simp [run _ _ _ he]) (Post.same H (mk_int _ _) (hK hlim))
     | «at» b sz cap=>
       obtain ⟨hlim,A,he,_⟩:=hp
       exact .of_value (v := .int .i64 len) (w':=w) (by simp [run _ _ _ he]) (Post.same H (mk_int _ _) (hK hlim))
 · rename_i sz _ hev
   rw [hev] at hv
   simp only [VR] at hv
   exact .of_value (v := .int .i64 0) (w':=w) (by simp [run _ _ _ hv.1]) (Post.same H (mk_int _ _) hK)
 · exact hK.elim
theorem lowOf_sound {d:Int} {o:Option Operand} {o':Option Opd} {n:Int} (hs:SRel w L N s a.tmps) (ho:match o,o' with | some x,some x'=>∃ t,compX P t x=some x' | Option.none,Option.none=>True | _,_=>False)
   (hn:lowOf s d o'=some n):(o=Option.none∧n=d)∨∃ x k,o=some x∧a.eval x = .int k n:=by
 cases o with
 | none=>
   cases o' with
   | none=>simp only [lowOf,Option.some.injEq] at hn; exact .inl ⟨rfl,hn.symm⟩
   | some=>exact ho.elim
 | some x=>
   cases o' with
   | none=>exact ho.elim
   | some x'=>
     obtain ⟨t,hx⟩:=ho
     obtain ⟨k,hk⟩:=asI_some hn (compX_sound hx hs)
     exact .inr ⟨x,k,rfl,hk⟩
theorem run_bounds {isS:Bool} {len cap:Nat} {lo hi:Option Operand} {a' b':Int} (hlo:(lo=Option.none∧a'=0)∨∃ x k,lo=some x∧a.eval x = .int k a')
   (hhi:(hi=Option.none∧b'=len)∨∃ x k,hi=some x∧a.eval x = .int k b') (h0:0≤a') (h1:a'≤b') (h2:b'≤len) (h3:len≤cap) (w:World) :
   (Instr.sliceBounds isS len cap (lo.map a.eval) (hi.map a.eval) Option.none).run P w = .ok (a'.toNat,b'.toNat,cap) w:=by
 have e1:∀ (x:Value) (k:IntKind) (j:Int) (y:Nat) (c:BoundsCode),x = .int k j→0≤j→j≤y→(Instr.sliceBound x y c).run P w = .ok j.toNat w:=fun x k j y c hx g0 g1=>by
   subst hx; simp [Instr.sliceBound,asIntOf,g0,g1]
 have hb2:b'≤(cap:Int):=by omega
 have hb3:a'≤(b'.toNat:Int):=by omega
 rcases hhi with ⟨rfl,rfl⟩ | ⟨y,k,rfl,hy⟩
 · rcases hlo with ⟨rfl,rfl⟩ | ⟨x,k',rfl,hx⟩
   · simp [Instr.sliceBounds]
   · simp [Instr.sliceBounds,e1 _ _ _ _ _ hx h0 (show a'≤(len:Int) by omega)]
 · rcases hlo with ⟨rfl,rfl⟩ | ⟨x,k',rfl,hx⟩
   · simp [Instr.sliceBounds,e1 _ _ _ _ _ hy (by omega) hb2]
   · simp [Instr.sliceBounds,e1 _ _ _ _ _ hy (by omega) hb2,e1 _ _ _ _ _ hx h0 hb3]
theorem ok_slcs {t:TypeId} {x:Operand} {x':Opd} {lo hi:Option Operand} {lo' hi':Option Opd} (H:HRel base w0 w L N F [] h) (hs:SRel w L N s a.tmps) (hx:∃ t,compX P t x=some x')
   (hlo:match lo,lo' with | some x,some x'=>∃ t,compX P t x=some x' | Option.none,Option.none=>True | _,_=>False)
   (hhi:match hi,hi' with | some x,some x'=>∃ t,compX P t x=some x' | Option.none,Option.none=>True | _,_=>False)
   (ht:P.underlying t=some .string)
   {sz:Nat} (hK:aop P s h N K (.slc true sz x' lo' hi')):Gives P (do pure (.value (←Instr.sliceAt t (a.eval x) (lo.map a.eval) (hi.map a.eval) Option.none))) w (Post base w0 w L N K):=by
 obtain ⟨t',hx⟩:=hx
 have hv:=compX_sound hx hs
 simp only [aop] at hK
 split at hK
 · rename_i l _ hev
   obtain ⟨b,he,hb,hlim⟩:=VR_str hev hv
   unfold onO at hK
   split at hK
   · rename_i a' ha
     split at hK
     · rename_i b' hb'
       obtain ⟨h0,h1,h2,hK⟩:=hK
       have hsz:b.size=l.length:=by rw [←hb]; simp
       have r:=run_bounds (P:=P) (a:=a) (isS:=false) (len:=b.size) (cap:=b.size) (lowOf_sound hs hlo ha) (by rw [hsz]; exact lowOf_sound hs hhi hb') h0 h1 (by rw [hsz]; exact h2) (Nat.le_refl _) w
       refine .of_value (v := .string (b.extract a'.toNat b'.toNat)) (w':=w) ?_ (Post.same H (mk_str ?_ ?_) hK)
       · simp [Instr.sliceAt,Instr.slice,run_underlying ht,he,r]
       · rw [ByteArray.data_extract,Array.toList_extract,hb,List.extract_eq_take_drop,List.drop_take]
       · simp only [List.length_drop,List.length_take]; omega
     · exact hK.elim
   · exact hK.elim
 · rename_i hb _; cases hb
 · rename_i hb _; cases hb
 · rename_i hb _; cases hb
 · exact hK.elim
end
end Go.Proofs.Ytoclolkigjbcgaa
