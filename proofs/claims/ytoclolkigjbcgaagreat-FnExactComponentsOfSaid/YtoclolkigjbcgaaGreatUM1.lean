/- What the marks make of data. -/
import Derived.Test.YtoclolkigjbcgaaGreatUT1
namespace Go.Proofs.YtoclolkigjbcgaaGreat
set_option linter.all false
open Go Go.RowKit Go.Proofs
def dig (n:Nat):List UInt8:=if h:n=0 then [] else dig (n / 10)++[UInt8.ofNat (48+n % 10)]
termination_by n
decreasing_by omega
def mtx (k:Int):Str:=if k≤0 then [109,48] else 109::dig k.toNat
def Jnf (l:List Int) (k:Int):List Int:=mkL (fun _ k=>k) (fun _=>1) l k
def Jiw (l:List Int):Nat:=cL (fun _=>1) l
def J5g (l:List Str) (k:Int):List Str:=mkL (fun _ k=>mtx k) (fun _=>1) l k
def J1v (l:List Str):Nat:=cL (fun _=>1) l
theorem Jkb (l:List Int):Jiw l=l.length:=Jkj l
theorem Ja8 (l:List Str):J1v l=l.length:=Jkj l
def Jjc (x:DLin) (k:Int):DLin:=⟨k,Jnf x.Coeffs (k+1)⟩
def Jgu (x:DLin):Nat:=1+Jiw x.Coeffs
def Jo8 (l:List DLin) (k:Int):List DLin:=mkL Jjc Jgu l k
def Jjg (l:List DLin):Nat:=cL Jgu l
def Jkg (x:DTerm) (k:Int):DTerm:=⟨k,mtx (k+1)⟩
def Jb9 (x:DTerm):Nat:=2
def Jkw (l:List DTerm) (k:Int):List DTerm:=mkL Jkg Jb9 l k
def Jew (l:List DTerm):Nat:=cL Jb9 l
def Jjd (x:DSum) (k:Int):DSum:=⟨k,Jkw x.Terms (k+1)⟩
def Jh4 (x:DSum):Nat:=1+Jew x.Terms
def Ji3 (l:List DSum) (k:Int):List DSum:=mkL Jjd Jh4 l k
def J3c (l:List DSum):Nat:=cL Jh4 l
def Jje (x:DArg) (k:Int):DArg:=⟨((k).tmod 3==0),Ji3 x.Heads (k+1),mtx (k+1+J3c x.Heads)⟩
def Jg9 (x:DArg):Nat:=2+J3c x.Heads
def Jnj (l:List DArg) (k:Int):List DArg:=mkL Jje Jg9 l k
def Jkd (l:List DArg):Nat:=cL Jg9 l
def J6w (x:DFunction) (k:Int):DFunction:=⟨mtx (k),J5g x.Params (k+1),((k+1+J1v x.Params).tmod 3==0),Jo8 x.Pre (k+1+J1v x.Params+1)⟩
def J4l (x:DFunction):Nat:=2+J1v x.Params+Jjg x.Pre
def J8g (l:List DFunction) (k:Int):List DFunction:=mkL J6w J4l l k
def J44 (l:List DFunction):Nat:=cL J4l l
def Jdh (x:DPattern) (k:Int):DPattern:=⟨mtx (k),((k+1).tmod 3==0),mtx (k+1+1),mtx (k+1+1+1)⟩
def J5p (x:DPattern):Nat:=4
def Jcv (l:List DPattern) (k:Int):List DPattern:=mkL Jdh J5p l k
def J1e (l:List DPattern):Nat:=cL J5p l
def Jgn (x:DCall) (k:Int):DCall:=⟨mtx (k),mtx (k+1),Jnj x.Args (k+1+1)⟩
def Jbf (x:DCall):Nat:=2+Jkd x.Args
def Jlb (l:List DCall) (k:Int):List DCall:=mkL Jgn Jbf l k
def J4h (l:List DCall):Nat:=cL Jbf l
def J9v (x:DRule) (k:Int):DRule:=⟨mtx (k),Jcv x.Patterns (k+1),Ji3 x.Guards (k+1+J1e x.Patterns),Jlb x.Calls (k+1+J1e x.Patterns+J3c x.Guards),⟨((k+1+J1e x.Patterns+J3c x.Guards+J4h x.Calls).tmod 3==0),Ji3 x.Result.Heads (k+1+J1e x.Patterns+J3c x.Guards+J4h x.Calls+1),mtx (k+1+J1e x.Patterns+J3c x.Guards+J4h x.Calls+1+J3c x.Result.Heads)⟩⟩
def Jb7 (x:DRule):Nat:=3+J1e x.Patterns+J3c x.Guards+J4h x.Calls+J3c x.Result.Heads
def Jg2 (l:List DRule) (k:Int):List DRule:=mkL J9v Jb7 l k
def Jfc (l:List DRule):Nat:=cL Jb7 l
def Jfp (x:DProgram) (k:Int):DProgram:=⟨J8g x.Functions (k),Jg2 x.Rules (k+J44 x.Functions)⟩
def J6k (x:DProgram):Nat:=J44 x.Functions+Jfc x.Rules
theorem Jdn {α:Type}{c w:α→Nat}(h:∀ x,c x≤8+8*w x):∀ l:List α,cL c l≤8*wL w l
 | []=>Nat.zero_le _
 | x::l=>by
  have h1:=h x
  have h2:=Jdn h l
  simp only [cL]
  unfold wL at h2 ⊢
  simp only [List.length_cons,List.map_cons,List.sum_cons]
  omega
theorem Jql (l:List Int):Jiw l≤8*Jer l:=by rw [Jkb];unfold Jer;omega
theorem Jik (l:List Str):J1v l≤8*J33 l:=by have:=J1h List.length l;rw [Ja8];unfold J33;omega
theorem Jpm (x:DLin):Jgu x≤8+8*Ja7 x:=by have:=Jql x.Coeffs;unfold Jgu Ja7;omega
theorem Jog (l:List DLin):Jjg l≤8*J90 l:=Jdn Jpm l
theorem Jmv (x:DTerm):Jb9 x≤8+8*J5o x:=by unfold Jb9 J5o;omega
theorem Jm6 (l:List DTerm):Jew l≤8*Jae l:=Jdn Jmv l
theorem Jq1 (x:DSum):Jh4 x≤8+8*J8j x:=by have:=Jm6 x.Terms;unfold Jh4 J8j;omega
theorem Jh6 (l:List DSum):J3c l≤8*J4u l:=Jdn Jq1 l
theorem Joj (x:DArg):Jg9 x≤8+8*J7w x:=by have:=Jh6 x.Heads;unfold Jg9 J7w;omega
theorem Job (l:List DArg):Jkd l≤8*Jc1 l:=Jdn Joj l
theorem Jfe (x:DFunction):J4l x≤8+8*J0j x:=by have:=Jik x.Params;have:=Jog x.Pre;unfold J4l J0j;omega
theorem Jet (l:List DFunction):J44 l≤8*J17 l:=Jdn Jfe l
theorem Jgs (x:DPattern):J5p x≤8+8*J1w x:=by unfold J5p J1w;omega
theorem Jgh (l:List DPattern):J1e l≤8*J1s l:=Jdn Jgs l
theorem Jmy (x:DCall):Jbf x≤8+8*J4f x:=by have:=Job x.Args;unfold Jbf J4f;omega
theorem Jly (l:List DCall):J4h l≤8*J64 l:=Jdn Jmy l
theorem Jmp (x:DRule):Jb7 x≤8+8*J3f x:=by have:=Jgh x.Patterns;have:=Jh6 x.Guards;have:=Jly x.Calls;have:=Jh6 x.Result.Heads;unfold Jb7 J3f J7w;omega
theorem Jm2 (l:List DRule):Jfc l≤8*J6z l:=Jdn Jmp l
theorem Jie (x:DProgram):J6k x≤8*J0d x:=by have:=Jet x.Functions;have:=Jm2 x.Rules;unfold J6k J0d;omega
end Go.Proofs.YtoclolkigjbcgaaGreat
namespace Go.Proofs.YtoclolkigjbcgaaGreat
set_option linter.all false
open Go Go.RowKit
mutual
def GR (h:Heap):AV→AV→List Nat→Prop
 | .us sz rows,a,I=>(a = .nil sz∧rows=[]∧I=[])∨∃ id I',a = .ref id 0 rows.length∧I=id::I'∧((h id=some ⟨false,sz,rows⟩∧I'=[])∨∃ rows',h id=some ⟨true,sz,rows'⟩∧GRr h rows rows' I')
 | .agg cs,a,I=>∃ cs',a = .agg cs'∧GRl h cs cs' I
 | .tup cs,a,I=>∃ cs',a = .tup cs'∧GRl h cs cs' I
 | .int k n,a,I=>a = .int k n∧I=[]
 | .bool b,a,I=>a = .bool b∧I=[]
 | .str s,a,I=>a = .str s∧I=[]
 | .nilp,a,I=>a = .nilp∧I=[]
 | _,_,_=>False
def GRl (h:Heap):List AV→List AV→List Nat→Prop
 | [],as,I=>as=[]∧I=[]
 | c::cs,as,I=>∃ a as' I1 I2,as=a::as'∧I=I1++I2∧GR h c a I1∧GRl h cs as' I2
def GRr (h:Heap):List (List AV)→List (List AV)→List Nat→Prop
 | [],rs,I=>rs=[]∧I=[]
 | r::rows,rs,I=>∃ a rs' I1 I2,rs=a::rs'∧I=I1++I2∧GRl h r a I1∧GRr h rows rs' I2
end
section
variable {h h':Heap}
mutual
theorem Jnb:∀ (t:AV) {a:AV}{I:List Nat},(∀ id∈I,h' id=h id)→GR h t a I→GR h' t a I
 | .us sz rows,a,I,hf,ht=>by
  simp only [GR] at ht ⊢
  rcases ht with ht|⟨id,I',e1,rfl,e2|⟨rows',e2,e3⟩⟩
  ·exact .inl ht
  ·exact .inr ⟨id,I',e1,rfl,.inl ⟨(hf id (by simp)).trans e2.1,e2.2⟩⟩
  ·exact .inr ⟨id,I',e1,rfl,.inr ⟨rows',(hf id (by simp)).trans e2,J69 rows (fun id hi=>hf id (by simp [hi])) e3⟩⟩
 | .agg cs,a,I,hf,ht=>by
  simp only [GR] at ht ⊢
  obtain ⟨cs',e1,e2⟩:=ht
  exact ⟨cs',e1,J8s cs hf e2⟩
 | .tup cs,a,I,hf,ht=>by
  simp only [GR] at ht ⊢
  obtain ⟨cs',e1,e2⟩:=ht
  exact ⟨cs',e1,J8s cs hf e2⟩
 | .int ..,_,_,_,ht | .bool _,_,_,_,ht | .str _,_,_,_,ht | .nilp,_,_,_,ht=>by simpa only [GR] using ht
 | .undef,_,_,_,ht | .nil _,_,_,_,ht | .ptr ..,_,_,_,ht | .fptr ..,_,_,_,ht | .ref ..,_,_,_,ht | .sl ..,_,_,_,ht | .fn ..,_,_,_,ht | .mp _,_,_,_,ht=>by simp only [GR] at ht
theorem J8s:∀ (ts:List AV) {as:List AV}{I:List Nat},(∀ id∈I,h' id=h id)→GRl h ts as I→GRl h' ts as I
 | [],as,I,hf,ht=>by simpa only [GRl] using ht
 | t::ts,as,I,hf,ht=>by
  simp only [GRl] at ht ⊢
  obtain ⟨a,as',I1,I2,e1,rfl,e2,e3⟩:=ht
  exact ⟨a,as',I1,I2,e1,rfl,Jnb t (fun id hi=>hf id (by simp [hi])) e2,J8s ts (fun id hi=>hf id (by simp [hi])) e3⟩
theorem J69:∀ (ts:List (List AV)) {as:List (List AV)}{I:List Nat},(∀ id∈I,h' id=h id)→GRr h ts as I→GRr h' ts as I
 | [],as,I,hf,ht=>by simpa only [GRr] using ht
 | t::ts,as,I,hf,ht=>by
  simp only [GRr] at ht ⊢
  obtain ⟨a,as',I1,I2,e1,rfl,e2,e3⟩:=ht
  exact ⟨a,as',I1,I2,e1,rfl,J8s t (fun id hi=>hf id (by simp [hi])) e2,J69 ts (fun id hi=>hf id (by simp [hi])) e3⟩
end
theorem Jd4:∀ {ts as:List AV}{I:List Nat},GRl h ts as I→as.length=ts.length
 | [],as,I,ht=>by simp only [GRl] at ht;rw [ht.1]
 | t::ts,as,I,ht=>by
  simp only [GRl] at ht
  obtain ⟨a,as',I1,I2,rfl,_,_,e3⟩:=ht
  simp [Jd4 e3]
theorem J67:∀ {ts as:List (List AV)}{I:List Nat},GRr h ts as I→as.length=ts.length
 | [],as,I,ht=>by simp only [GRr] at ht;rw [ht.1]
 | t::ts,as,I,ht=>by
  simp only [GRr] at ht
  obtain ⟨a,as',I1,I2,rfl,_,_,e3⟩:=ht
  simp [J67 e3]
theorem Ji1:∀ {ts as:List (List AV)}{I:List Nat},GRr h ts as I→∀ r∈ts,∃ r'∈as,r'.length=r.length
 | [],as,I,ht,r,hr=>by simp at hr
 | t::ts,as,I,ht,r,hr=>by
  simp only [GRr] at ht
  obtain ⟨a,as',I1,I2,rfl,_,e2,e3⟩:=ht
  rcases List.mem_cons.1 hr with rfl|hr
  ·exact ⟨a,by simp,Jd4 e2⟩
  ·obtain ⟨r',h1,h2⟩:=Ji1 e3 r hr
   exact ⟨r',by simp [h1],h2⟩
theorem Je1:∀ {ts as:List (List AV)}{I J:List Nat}{t a:List AV},GRr h ts as I→GRl h t a J→GRr h (ts++[t]) (as++[a]) (I++J)
 | [],as,I,J,t,a,ht,h1=>by
  simp only [GRr] at ht;obtain ⟨rfl,rfl⟩:=ht
  simp only [List.nil_append,GRr]
  exact ⟨a,[],J,[],rfl,by simp,h1,rfl,rfl⟩
 | x::ts,as,I,J,t,a,ht,h1=>by
  simp only [GRr] at ht
  obtain ⟨b,as',I1,I2,rfl,rfl,e2,e3⟩:=ht
  simp only [List.cons_append,GRr]
  exact ⟨b,as'++[a],I1,I2++J,rfl,by simp,e2,Je1 e3 h1⟩
end
def Jg1 (L:Nat→Option Loc) (F:Nat→List Nat) (I:List Nat) (b:Nat):Prop:=∃ id∈I,(∃ sz cap,L id=some (.at b sz cap))∨b∈F id
section
variable {base:Nat}{w0 w:World}{L:Nat→Option Loc}{N:Nat}{F:Nat→List Nat}{E:List Nat}{h:Heap}
theorem Jht (H:HRel base w0 w L N F E h) {I1 I2:List Nat}{b:Nat}(h1:Jg1 L F I1 b) (h2:Jg1 L F I2 b):∃ id,id∈I1∧id∈I2:=by
 obtain ⟨i,hi,h1⟩:=h1
 obtain ⟨j,hj,h2⟩:=h2
 rcases h1 with ⟨sz,cap,h1⟩|h1 <;> rcases h2 with ⟨sz',cap',h2⟩|h2
 ·have:=H.inj i j b _ _ _ _ h1 h2;subst this;exact ⟨i,hi,hj⟩
 ·exact absurd ⟨i,sz,cap,h1⟩ (H.fp j b h2).1
 ·exact absurd ⟨j,sz',cap',h2⟩ (H.fp i b h1).1
 ·have:=H.dj i j b h1 h2;subst this;exact ⟨i,hi,hj⟩
theorem Jtm (H:HRel base w0 w L N F E h) {I:List Nat}{b:Nat}(h1:Jg1 L F I b):base≤b∧(b<w.heap.size∨∃ id∈I,∃ sz cap,L id=some (.at b sz cap)):=by
 obtain ⟨i,hi,h1⟩:=h1
 rcases h1 with ⟨sz,cap,h1⟩|h1
 ·exact ⟨H.lo b ⟨i,sz,cap,h1⟩,.inr ⟨i,hi,sz,cap,h1⟩⟩
 ·exact ⟨(H.fp i b h1).2.1,.inl (H.fp i b h1).2.2⟩
theorem Jg1.left {I J:List Nat}{b:Nat}(x:Jg1 L F I b):Jg1 L F (I++J) b:=by obtain ⟨i,hi,x⟩:=x;exact ⟨i,List.mem_append_left _ hi,x⟩
theorem Jg1.right {I J:List Nat}{b:Nat}(x:Jg1 L F J b):Jg1 L F (I++J) b:=by obtain ⟨i,hi,x⟩:=x;exact ⟨i,List.mem_append_right _ hi,x⟩
theorem Jfk (H:HRel base w0 w L N F E h) {I1 I2 S1 S2:List Nat}(hI:(I1++I2).Nodup) (h1:∀ b∈S1,Jg1 L F I1 b) (h2:∀ b∈S2,Jg1 L F I2 b) (n1:S1.Nodup) (n2:S2.Nodup):(S1++S2).Nodup:=by
 rw [List.nodup_append]
 refine ⟨n1,n2,?_⟩
 rintro b hb c hc rfl
 obtain ⟨id,g1,g2⟩:=Jht H (h1 b hb) (h2 b hc)
 exact (List.nodup_append.1 hI).2.2 id g1 id g2 rfl
mutual
theorem Jkm (H:HRel base w0 w L N F E h):∀ (t:AV) {a:AV}{I:List Nat}{v:Value}{M:Nat},J16 t=true→I.Nodup→GR h t a I→VR w L M a v [] →
 ∃ S,VR w Lo 0 t v S∧S.Nodup∧∀ b∈S,Jg1 L F I b∧b<w.heap.size
 | .undef,_,_,_,_,_,_,ht,_ | .nil _,_,_,_,_,_,_,ht,_ | .ptr ..,_,_,_,_,_,_,ht,_ | .fptr ..,_,_,_,_,_,_,ht,_ | .ref ..,_,_,_,_,_,_,ht,_ | .sl ..,_,_,_,_,_,_,ht,_ | .fn ..,_,_,_,_,_,_,ht,_ | .mp _,_,_,_,_,_,_,ht,_=>by simp only [GR] at ht
 | .int ..,a,I,v,M,c,hI,ht,hv=>by simp only [GR] at ht;obtain ⟨rfl,_⟩:=ht;exact ⟨[],by simpa only [VR] using hv,List.nodup_nil,by simp⟩
 | .bool _,a,I,v,M,c,hI,ht,hv=>by simp only [GR] at ht;obtain ⟨rfl,_⟩:=ht;exact ⟨[],by simpa only [VR] using hv,List.nodup_nil,by simp⟩
 | .str _,a,I,v,M,c,hI,ht,hv=>by simp only [GR] at ht;obtain ⟨rfl,_⟩:=ht;exact ⟨[],by simpa only [VR] using hv,List.nodup_nil,by simp⟩
 | .nilp,a,I,v,M,c,hI,ht,hv=>by simp only [GR] at ht;obtain ⟨rfl,_⟩:=ht;exact ⟨[],by simpa only [VR] using hv,List.nodup_nil,by simp⟩
 | .agg cs,a,I,v,M,c,hI,ht,hv=>by
  simp only [GR] at ht;obtain ⟨cs',rfl,ht⟩:=ht
  simp only [J16] at c
  simp only [VR] at hv ⊢
  obtain ⟨vs,rfl,hv⟩:=hv
  obtain ⟨S,g1,g2,g3⟩:=Jb2 H cs c hI ht hv
  exact ⟨S,⟨vs,rfl,g1⟩,g2,g3⟩
 | .tup cs,a,I,v,M,c,hI,ht,hv=>by
  simp only [GR] at ht;obtain ⟨cs',rfl,ht⟩:=ht
  simp only [J16] at c
  simp only [VR] at hv ⊢
  obtain ⟨vs,rfl,hv⟩:=hv
  obtain ⟨S,g1,g2,g3⟩:=Jb2 H cs c hI ht hv
  exact ⟨S,⟨vs,rfl,g1⟩,g2,g3⟩
 | .us sz rows,a,I,v,M,c,hI,ht,hv=>by
  simp only [GR] at ht
  simp only [J16] at c
  rcases ht with ⟨rfl,rfl,rfl⟩|⟨id,I',rfl,rfl,hB⟩
  ·simp only [VR] at hv ⊢
   exact ⟨[],by simpa using hv.1,List.nodup_nil,by simp⟩
  ·obtain ⟨B,hid⟩:∃ B,h id=some B:=by rcases hB with ⟨hB,_⟩|⟨_,hB,_⟩ <;> exact ⟨_,hB⟩
   cases hl:L id with
   | none=>rw [H.mod id hl] at hid;cases hid
   | some l=>
    simp only [VR] at hv
    have hr:=hv.1.2.2 l hl
    have hbr:=H.blk id B l hid hl
    cases l with
    | none=>
     obtain ⟨_,_,hl0,rfl⟩:=hr
     have hr0:rows=[]:=List.eq_nil_of_length_eq_zero hl0
     subst hr0
     simp only [VR]
     exact ⟨[],by simp,List.nodup_nil,by simp⟩
    | «at» b sz' cap=>
     obtain ⟨hlim,A,rfl,hA,hcap⟩:=hr
     obtain ⟨rfl,hF,cur,t,vals,rest,h1,h2,h3,h4,h5,h6,h7,h8,h9,h10⟩:=hbr.cells hcap.2
     have hA:A=some ⟨b,0,Option.none⟩:=by simpa using hA (.inr rfl)
     subst hA
     have hsrc:Jg1 L F (id::I') b:=⟨id,by simp,.inl ⟨_,_,hl⟩⟩
     have hblt:=J1k h1
     rcases hB with ⟨hB,rfl⟩|⟨rows',hB,hR⟩
     ·rw [hB,Option.some.injEq] at hid
      subst hid
      simp only [Bool.false_eq_true,if_false] at h10
      refine ⟨b::F id,?_,?_,?_⟩
      ·simp only [VR]
       refine ⟨hlim,.inr ⟨b,cap,cur,t,vals,rest,F id,by simp,rfl,J2e b,h1,h2,h3,h4,by omega,h5,h8,h9,?_⟩⟩
       exact Jeb rows vals (F id) c (fun b _=>J2e b) h10
      ·rw [List.nodup_cons]
       exact ⟨fun hb=>(H.fp id b hb).1 ⟨id,_,_,hl⟩,H.nd id⟩
      ·intro x hx
       rcases List.mem_cons.1 hx with rfl|hx
       ·exact ⟨hsrc,hblt⟩
       ·exact ⟨⟨id,by simp,.inr hx⟩,(H.fp id x hx).2.2⟩
     ·rw [hB,Option.some.injEq] at hid
      subst hid
      simp only [if_true] at h10
      rw [hF rfl] at h10
      have hI':=List.nodup_cons.1 hI
      obtain ⟨S,g1,g2,g3⟩:=Jh7 H rows c hI'.2 hR h10
      refine ⟨b::S,?_,?_,?_⟩
      ·simp only [VR]
       refine ⟨hlim,.inr ⟨b,cap,cur,t,vals,rest,S,by simp,rfl,J2e b,h1,h2,h3,h4,by omega,h5,?_,h9,g1⟩⟩
       intro r hr
       obtain ⟨r',k1,k2⟩:=Ji1 hR r hr
       rw [←k2];exact h8 r' k1
      ·rw [List.nodup_cons]
       refine ⟨fun hb => ?_,g2⟩
       obtain ⟨j,q1,q2⟩:=Jht H (I1:=[id]) (b:=b) ⟨id,by simp,.inl ⟨_,_,hl⟩⟩ (g3 b hb).1
       simp only [List.mem_singleton] at q1
       subst q1
       exact hI'.1 q2
      ·intro x hx
       rcases List.mem_cons.1 hx with rfl|hx
       ·exact ⟨hsrc,hblt⟩
       ·exact ⟨Jg1.right (I:=[id]) (g3 x hx).1,(g3 x hx).2⟩
theorem Jb2 (H:HRel base w0 w L N F E h):∀ (ts:List AV) {as:List AV}{I:List Nat}{vs:List Value}{M:Nat},J25 ts=true→I.Nodup→GRl h ts as I→VRl w L M as vs [] →
 ∃ S,VRl w Lo 0 ts vs S∧S.Nodup∧∀ b∈S,Jg1 L F I b∧b<w.heap.size
 | [],as,I,vs,M,c,hI,ht,hv=>by
  simp only [GRl] at ht;obtain ⟨rfl,_⟩:=ht
  simp only [VRl] at hv ⊢
  exact ⟨[],⟨hv.1,rfl⟩,List.nodup_nil,by simp⟩
 | t::ts,as,I,vs,M,c,hI,ht,hv=>by
  simp only [GRl] at ht;obtain ⟨a,as',I1,I2,rfl,rfl,h1,h2⟩:=ht
  simp only [J25,Bool.and_eq_true] at c
  obtain ⟨v,vs',rfl,g1,g2⟩:=J0g.1 hv
  have hn:=List.nodup_append.1 hI
  obtain ⟨S1,k1,k2,k3⟩:=Jkm H t c.1 hn.1 h1 g1
  obtain ⟨S2,q1,q2,q3⟩:=Jb2 H ts c.2 hn.2.1 h2 g2
  refine ⟨S1++S2,?_,Jfk H hI (fun b hb=>(k3 b hb).1) (fun b hb=>(q3 b hb).1) k2 q2,?_⟩
  ·simp only [VRl];exact ⟨v,vs',S1,S2,rfl,rfl,k1,q1⟩
  ·intro b hb
   rcases List.mem_append.1 hb with hb|hb
   ·exact ⟨(k3 b hb).1.left,(k3 b hb).2⟩
   ·exact ⟨(q3 b hb).1.right,(q3 b hb).2⟩
theorem Jh7 (H:HRel base w0 w L N F E h):∀ (ts:List (List AV)) {as:List (List AV)}{I:List Nat}{vs:List Value}{M:Nat},J2q ts=true→I.Nodup→GRr h ts as I→VRr w L M as vs [] →
 ∃ S,VRr w Lo 0 ts vs S∧S.Nodup∧∀ b∈S,Jg1 L F I b∧b<w.heap.size
 | [],as,I,vs,M,c,hI,ht,hv=>by
  simp only [GRr] at ht;obtain ⟨rfl,_⟩:=ht
  simp only [VRr] at hv ⊢
  exact ⟨[],⟨hv.1,rfl⟩,List.nodup_nil,by simp⟩
 | t::ts,as,I,vs,M,c,hI,ht,hv=>by
  simp only [GRr] at ht;obtain ⟨a,as',I1,I2,rfl,rfl,h1,h2⟩:=ht
  simp only [J2q,Bool.and_eq_true] at c
  simp only [VRr] at hv
  obtain ⟨v1,v2,T1,T2,rfl,hT,g1,g2⟩:=hv
  obtain ⟨rfl,rfl⟩:=List.append_eq_nil_iff.1 hT.symm
  have hn:=List.nodup_append.1 hI
  obtain ⟨S1,k1,k2,k3⟩:=Jb2 H t c.1 hn.1 h1 g1
  obtain ⟨S2,q1,q2,q3⟩:=Jh7 H ts c.2 hn.2.1 h2 g2
  refine ⟨S1++S2,?_,Jfk H hI (fun b hb=>(k3 b hb).1) (fun b hb=>(q3 b hb).1) k2 q2,?_⟩
  ·simp only [VRr];exact ⟨v1,v2,S1,S2,rfl,rfl,k1,q1⟩
  ·intro b hb
   rcases List.mem_append.1 hb with hb|hb
   ·exact ⟨(k3 b hb).1.left,(k3 b hb).2⟩
   ·exact ⟨(q3 b hb).1.right,(q3 b hb).2⟩
end
end
theorem Jbg {P:Program}{f:FuncId}{as:List AV}{Q:AV→Prop}(h:J1u P f as J53 0 fun r h _=>∃ t I,GR h t r I∧I.Nodup∧J16 t=true∧Q t):Holds P f as Q:=by
 refine ⟨h.1,fun w vs hv => ?_⟩
 have H0:HRel w.heap.size w w Lo 0 (fun _=>[]) [] J53:=
  ⟨Below.refl _ _,Nat.le_refl _,fun _ _=>rfl,fun _ _=>rfl,(fun _ _ h=>by cases h),(fun _ _ _ _ _ _ _ h=>by cases h),fun b h=>absurd h (J2e b),(fun _ _ _ h=>by cases h),by simp,by simp,by simp,by simp,by simp,by simp⟩
 refine (h.2 w.heap.size w w Lo (fun _=>[]) vs H0 hv).mono ?_
 rintro e w' ⟨v,r,L',n',F',h',rfl,H',J65,hr,t,I,g1,g2,g3,g4⟩
 obtain ⟨S,k1,k2,k3⟩:=Jkm H' t g3 g2 g1 hr
 exact ⟨v,t,S,rfl,g4,g3,H'.below,k1,k2,fun b hb=>⟨(Jtm H' (k3 b hb).1).1,(k3 b hb).2⟩⟩
def Jvl (res:List RV) (Q:AV→Prop):Fin:=fun e s h _=>match e with
 | .exit _=>False
 | _=>onO (J7v s h res) fun xs=>∃ t I,GR h t (J7t xs) I∧I.Nodup∧J16 t=true∧Q t
@[simp ↓] theorem Jwt {res:List RV}{Q:AV→Prop}{s:Env}{h:Heap}{n:Nat} : Jvl res Q .ret s h n=onO (J7v s h res) fun xs=>∃ t I,GR h t (J7t xs) I∧I.Nodup∧J16 t=true∧Q t:=propext Iff.rfl
@[simp ↓] theorem Jpe {res:List RV}{Q:AV→Prop}{s:Env}{h:Heap}{n:Nat} : Jvl res Q .normal s h n=onO (J7v s h res) fun xs=>∃ t I,GR h t (J7t xs) I∧I.Nodup∧J16 t=true∧Q t:=propext Iff.rfl
theorem J9d {P:Program}{f:FuncId}{fn:Func}{af:AFn}{as:List AV}{Q:AV→Prop}{bx:Bool}(hf:P.funcs[f]? = some fn) (hc:J7a bx P fn=some af) (hn:(fn.name == "runtime.NumGoroutine")=false) (hl:as.length≤af.nt)
 (hr:rC P af.body [] (Jfa as) J53 0 (Jvl af.res Q)):Holds P f as Q:=by
 refine Jbg (J6p hf hc hn ⟨hl,?_⟩)
 unfold rC at hr
 have:(fun e s h n=>J40 P [] e s h n (Jvl af.res Q))=fun e s h n=>match e with
  | .exit _=>False
  | _=>onO (J7v s h af.res) fun xs=>∃ t I,GR h t (J7t xs) I∧I.Nodup∧J16 t=true∧Q t:=by
  funext e s h n;cases e <;> rfl
 rw [this] at hr
 exact hr
end Go.Proofs.YtoclolkigjbcgaaGreat
