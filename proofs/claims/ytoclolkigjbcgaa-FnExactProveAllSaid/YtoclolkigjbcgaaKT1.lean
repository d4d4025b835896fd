/- The types of the program, as data: read form (A), own form (U), weight (w). -/
import Derived.Test.YtoclolkigjbcgaaKRD
namespace Go.Proofs.Ytoclolkigjbcgaa
set_option linter.all false
open Go Go.RowKit Go.Proofs
structure DLin where
 Const:Int
 Coeffs:List Int
deriving DecidableEq
def rALin (x:DLin):List AV:=[i64 x.Const,.sl 1 (intsR x.Coeffs)]
def rULin (x:DLin):List AV:=[i64 x.Const,.us 1 (intsR x.Coeffs)]
@[simp] theorem drl_ULin (x:DLin):drl (rULin x)=rALin x:=by simp [rULin,rALin]
@[simp] theorem drrm_ULin (l:List (DLin)):drr (l.map rULin)=l.map rALin:=by rw [drr_eq,List.map_map]; exact List.map_congr_left fun x _=>drl_ULin x
@[simp] theorem clean_ULin (x:DLin):cleanl (rULin x)=true:=by simp [rULin]
@[simp] theorem cleanm_ULin (l:List (DLin)):cleanr (l.map rULin)=true:=by rw [cleanr_iff]; simp
@[simp] theorem cell_ALin (x:DLin):(rALin x).all isCell=true:=by simp [rALin]
@[simp] theorem len_ALin (x:DLin):(rALin x).length=2:=by simp [rALin]
@[simp] theorem bw_ALin (x:DLin) (h:Heap):bwl (rALin x) h=some (rALin x):=by simp [rALin]
@[simp] theorem gALin0 (x:DLin):(rALin x)[0]? = some (i64 x.Const):=rfl
@[simp] theorem eALin0 (x:DLin) (h:0<(rALin x).length):(rALin x)[0]=i64 x.Const:=rfl
@[simp] theorem gALin1 (x:DLin):(rALin x)[1]? = some (.sl 1 (intsR x.Coeffs)):=rfl
@[simp] theorem eALin1 (x:DLin) (h:1<(rALin x).length):(rALin x)[1] = .sl 1 (intsR x.Coeffs):=rfl
@[simp] theorem tALin (x:DLin):List.take 2 (rALin x)=rALin x:=rfl
@[simp] theorem gULin0 (x:DLin):(rULin x)[0]? = some (i64 x.Const):=rfl
@[simp] theorem eULin0 (x:DLin) (h:0<(rULin x).length):(rULin x)[0]=i64 x.Const:=rfl
@[simp] theorem gULin1 (x:DLin):(rULin x)[1]? = some (.us 1 (intsR x.Coeffs)):=rfl
@[simp] theorem eULin1 (x:DLin) (h:1<(rULin x).length):(rULin x)[1] = .us 1 (intsR x.Coeffs):=rfl
@[simp] theorem tULin (x:DLin):List.take 2 (rULin x)=rULin x:=rfl
def wIntS (l:List Int):Nat:=l.length
def wLin (x:DLin):Nat:=wIntS x.Coeffs
def wLinS (l:List DLin):Nat:=wL wLin l
structure DSystem where
 N:Int
 Rows:List DLin
deriving DecidableEq
def rASystem (x:DSystem):List AV:=[i64 x.N,.sl 2 (x.Rows.map rALin)]
def rUSystem (x:DSystem):List AV:=[i64 x.N,.us 2 (x.Rows.map rULin)]
@[simp] theorem cell_ASystem (x:DSystem):(rASystem x).all isCell=true:=by simp [rASystem]
@[simp] theorem len_ASystem (x:DSystem):(rASystem x).length=2:=by simp [rASystem]
@[simp] theorem bw_ASystem (x:DSystem) (h:Heap):bwl (rASystem x) h=some (rASystem x):=by simp [rASystem]
@[simp] theorem gASystem0 (x:DSystem):(rASystem x)[0]? = some (i64 x.N):=rfl
@[simp] theorem eASystem0 (x:DSystem) (h:0<(rASystem x).length):(rASystem x)[0]=i64 x.N:=rfl
@[simp] theorem gASystem1 (x:DSystem):(rASystem x)[1]? = some (.sl 2 (x.Rows.map rALin)):=rfl
@[simp] theorem eASystem1 (x:DSystem) (h:1<(rASystem x).length):(rASystem x)[1] = .sl 2 (x.Rows.map rALin):=rfl
@[simp] theorem tASystem (x:DSystem):List.take 2 (rASystem x)=rASystem x:=rfl
@[simp] theorem gUSystem0 (x:DSystem):(rUSystem x)[0]? = some (i64 x.N):=rfl
@[simp] theorem eUSystem0 (x:DSystem) (h:0<(rUSystem x).length):(rUSystem x)[0]=i64 x.N:=rfl
@[simp] theorem gUSystem1 (x:DSystem):(rUSystem x)[1]? = some (.us 2 (x.Rows.map rULin)):=rfl
@[simp] theorem eUSystem1 (x:DSystem) (h:1<(rUSystem x).length):(rUSystem x)[1] = .us 2 (x.Rows.map rULin):=rfl
@[simp] theorem tUSystem (x:DSystem):List.take 2 (rUSystem x)=rUSystem x:=rfl
def wSystem (x:DSystem):Nat:=wLinS x.Rows
structure DFarkas where
 Scale:Int
 Mult:List Int
deriving DecidableEq
def rAFarkas (x:DFarkas):List AV:=[i64 x.Scale,.sl 1 (intsR x.Mult)]
def rUFarkas (x:DFarkas):List AV:=[i64 x.Scale,.us 1 (intsR x.Mult)]
@[simp] theorem drl_UFarkas (x:DFarkas):drl (rUFarkas x)=rAFarkas x:=by simp [rUFarkas,rAFarkas]
@[simp] theorem drrm_UFarkas (l:List (DFarkas)):drr (l.map rUFarkas)=l.map rAFarkas:=by rw [drr_eq,List.map_map]; exact List.map_congr_left fun x _=>drl_UFarkas x
@[simp] theorem clean_UFarkas (x:DFarkas):cleanl (rUFarkas x)=true:=by simp [rUFarkas]
@[simp] theorem cleanm_UFarkas (l:List (DFarkas)):cleanr (l.map rUFarkas)=true:=by rw [cleanr_iff]; simp
@[simp] theorem len_AFarkas (x:DFarkas):(rAFarkas x).length=2:=by simp [rAFarkas]
@[simp] theorem gAFarkas0 (x:DFarkas):(rAFarkas x)[0]? = some (i64 x.Scale):=rfl
@[simp] theorem eAFarkas0 (x:DFarkas) (h:0<(rAFarkas x).length):(rAFarkas x)[0]=i64 x.Scale:=rfl
@[simp] theorem gAFarkas1 (x:DFarkas):(rAFarkas x)[1]? = some (.sl 1 (intsR x.Mult)):=rfl
@[simp] theorem eAFarkas1 (x:DFarkas) (h:1<(rAFarkas x).length):(rAFarkas x)[1] = .sl 1 (intsR x.Mult):=rfl
@[simp] theorem tAFarkas (x:DFarkas):List.take 2 (rAFarkas x)=rAFarkas x:=rfl
@[simp] theorem gUFarkas0 (x:DFarkas):(rUFarkas x)[0]? = some (i64 x.Scale):=rfl
@[simp] theorem eUFarkas0 (x:DFarkas) (h:0<(rUFarkas x).length):(rUFarkas x)[0]=i64 x.Scale:=rfl
@[simp] theorem gUFarkas1 (x:DFarkas):(rUFarkas x)[1]? = some (.us 1 (intsR x.Mult)):=rfl
@[simp] theorem eUFarkas1 (x:DFarkas) (h:1<(rUFarkas x).length):(rUFarkas x)[1] = .us 1 (intsR x.Mult):=rfl
@[simp] theorem tUFarkas (x:DFarkas):List.take 2 (rUFarkas x)=rUFarkas x:=rfl
structure DObligation where
 System:DSystem
 Target:DLin
deriving DecidableEq
def rAObligation (x:DObligation):List AV:=[i64 x.System.N,.sl 2 (x.System.Rows.map rALin),i64 x.Target.Const,.sl 1 (intsR x.Target.Coeffs)]
def rUObligation (x:DObligation):List AV:=[i64 x.System.N,.us 2 (x.System.Rows.map rULin),i64 x.Target.Const,.us 1 (intsR x.Target.Coeffs)]
@[simp] theorem drl_UObligation (x:DObligation):drl (rUObligation x)=rAObligation x:=by simp [rUObligation,rAObligation]
@[simp] theorem drrm_UObligation (l:List (DObligation)):drr (l.map rUObligation)=l.map rAObligation:=by rw [drr_eq,List.map_map]; exact List.map_congr_left fun x _=>drl_UObligation x
@[simp] theorem clean_UObligation (x:DObligation):cleanl (rUObligation x)=true:=by simp [rUObligation]
@[simp] theorem gAObligation0 (x:DObligation):(rAObligation x)[0]? = some (i64 x.System.N):=rfl
@[simp] theorem eAObligation0 (x:DObligation) (h:0<(rAObligation x).length):(rAObligation x)[0]=i64 x.System.N:=rfl
@[simp] theorem gAObligation1 (x:DObligation):(rAObligation x)[1]? = some (.sl 2 (x.System.Rows.map rALin)):=rfl
@[simp] theorem eAObligation1 (x:DObligation) (h:1<(rAObligation x).length):(rAObligation x)[1] = .sl 2 (x.System.Rows.map rALin):=rfl
@[simp] theorem gAObligation2 (x:DObligation):(rAObligation x)[2]? = some (i64 x.Target.Const):=rfl
@[simp] theorem eAObligation2 (x:DObligation) (h:2<(rAObligation x).length):(rAObligation x)[2]=i64 x.Target.Const:=rfl
@[simp] theorem gAObligation3 (x:DObligation):(rAObligation x)[3]? = some (.sl 1 (intsR x.Target.Coeffs)):=rfl
@[simp] theorem eAObligation3 (x:DObligation) (h:3<(rAObligation x).length):(rAObligation x)[3] = .sl 1 (intsR x.Target.Coeffs):=rfl
@[simp] theorem tAObligation (x:DObligation):List.take 4 (rAObligation x)=rAObligation x:=rfl
@[simp] theorem tAObligation_System (x:DObligation):List.take 2 (rAObligation x)=rASystem x.System:=rfl
@[simp] theorem tAObligation_Target (x:DObligation):List.take 2 (List.drop 2 (rAObligation x))=rALin x.Target:=rfl
@[simp] theorem gUObligation0 (x:DObligation):(rUObligation x)[0]? = some (i64 x.System.N):=rfl
@[simp] theorem eUObligation0 (x:DObligation) (h:0<(rUObligation x).length):(rUObligation x)[0]=i64 x.System.N:=rfl
@[simp] theorem gUObligation1 (x:DObligation):(rUObligation x)[1]? = some (.us 2 (x.System.Rows.map rULin)):=rfl
@[simp] theorem eUObligation1 (x:DObligation) (h:1<(rUObligation x).length):(rUObligation x)[1] = .us 2 (x.System.Rows.map rULin):=rfl
@[simp] theorem gUObligation2 (x:DObligation):(rUObligation x)[2]? = some (i64 x.Target.Const):=rfl
@[simp] theorem eUObligation2 (x:DObligation) (h:2<(rUObligation x).length):(rUObligation x)[2]=i64 x.Target.Const:=rfl
@[simp] theorem gUObligation3 (x:DObligation):(rUObligation x)[3]? = some (.us 1 (intsR x.Target.Coeffs)):=rfl
@[simp] theorem eUObligation3 (x:DObligation) (h:3<(rUObligation x).length):(rUObligation x)[3] = .us 1 (intsR x.Target.Coeffs):=rfl
@[simp] theorem tUObligation (x:DObligation):List.take 4 (rUObligation x)=rUObligation x:=rfl
@[simp] theorem tUObligation_System (x:DObligation):List.take 2 (rUObligation x)=rUSystem x.System:=rfl
@[simp] theorem tUObligation_Target (x:DObligation):List.take 2 (List.drop 2 (rUObligation x))=rULin x.Target:=rfl
def wObligation (x:DObligation):Nat:=wSystem x.System+wLin x.Target
def wObligationS (l:List DObligation):Nat:=wL wObligation l
end Go.Proofs.Ytoclolkigjbcgaa

namespace Go.Proofs.Ytoclolkigjbcgaa
set_option linter.all false
open Go Go.RowKit
attribute [simp] binS fillA srcRows
@[simp] theorem hK_same {h:Heap} {K:AV→Heap→Nat→Prop} {r:AV} {n:Nat} : hK h K r h n=K r h n:=by simp [hK,hext.refl]
mutual
def limA:AV→Prop
 | .sl _ rows=>rows.length≤LIM
 | .us _ rows=>rows.length≤LIM
 | .str l=>l.length≤LIM
 | .agg cs=>limL cs
 | .tup cs=>limL cs
 | .undef | .int .. | .bool _ | .nil _ | .nilp | .ptr .. | .fptr .. | .ref .. | .fn .. | .mp _=>True
def limL:List AV→Prop
 | []=>True
 | a::as=>limA a∧limL as
end
section
variable {w:World} {L:Nat→Option Loc} {N:Nat}
mutual
theorem VR_lim:∀ (a:AV) (v:Value) (S:List Nat),VR w L N a v S→limA a
 | .sl ..,_,_,h=>by
   simp only [VR] at h
   obtain ⟨⟨A,cap,vals,_,hl,_⟩,_⟩:=h
   simp only [limA]; exact hl.1
 | .us ..,_,_,h=>by simp only [VR] at h; simp only [limA]; exact h.1
 | .str _,_,_,h=>by
   simp only [VR] at h
   obtain ⟨⟨b,_,_,hl⟩,_⟩:=h
   simp only [limA]; exact hl
 | .agg cs,_,_,h=>by simp only [VR] at h; obtain ⟨vs,_,h⟩:=h; simp only [limA]; exact VRl_lim cs _ _ h
 | .tup cs,_,_,h=>by simp only [VR] at h; obtain ⟨vs,_,h⟩:=h; simp only [limA]; exact VRl_lim cs _ _ h
 | .undef,_,_,_ | .int ..,_,_,_ | .bool _,_,_,_ | .nil _,_,_,_ | .nilp,_,_,_ | .ptr ..,_,_,_ | .fptr ..,_,_,_ | .ref ..,_,_,_ | .fn ..,_,_,_ | .mp _,_,_,_=>by simp only [limA]
theorem VRl_lim:∀ (as:List AV) (vs:List Value) (S:List Nat),VRl w L N as vs S→limL as
 | [],_,_,_=>by simp only [limL]
 | a::as,_,_,h=>by
   simp only [VRl] at h
   obtain ⟨v,vs',S1,S2,_,_,h1,h2⟩:=h
   simp only [limL]; exact ⟨VR_lim a _ _ h1,VRl_lim as _ _ h2⟩
end
end
theorem holds_of_lim {P:Program} {f:FuncId} {fn:Func} {as:List AV} {Q:AV→Prop} (hf:P.funcs[f]? = some fn) (hb:fn.body.isSome=true) (hn:(fn.name == "runtime.NumGoroutine")=false) (h:limL as→Holds P f as Q):Holds P f as Q:=
 ⟨by simp [callable,hf,hb,hn],fun w vs hv=>(h (VRl_lim as vs [] hv)).2 w vs hv⟩
attribute [simp] limA limL
theorem awpO_mono {P:Program} {K K':Env→Heap→Nat→Prop} (hk:∀ s h n,K s h n→K' s h n):∀ {os:List AO} {s:Env} {h:Heap} {n:Nat},awpO P os s h n K→awpO P os s h n K'
 | [],s,h,n,hw=>hk s h n hw
 | o::os,s,h,n,hw=>by
   simp only [awpO] at hw ⊢
   cases hg:o.g with
   | none=>rw [hg] at hw; exact aop_mono hw fun _ _ _ h=>awpO_mono hk h
   | some p=>
     obtain ⟨j,want⟩:=p
     rw [hg] at hw
     simp only at hw ⊢
     cases hs:s j <;> rw [hs] at hw <;> try exact hw.elim
     · exact ⟨fun e=>aop_mono (hw.1 e) fun _ _ _ h=>awpO_mono hk h,fun e=>awpO_mono hk (hw.2 e)⟩
     · rename_i vs
       cases vs
       · exact awpO_mono hk hw
       · exact hw.elim
theorem aopD_mono {P:Program} {s:Env} {h:Heap} {n:Nat} {K K':AV→Heap→Nat→Prop} {op:AOp} (hw:aopD P s h n K op) (hk:∀ r h n,K r h n→K' r h n):aopD P s h n K' op:=by
 unfold aopD at hw ⊢
 split at hw
 · split at hw
   · rename_i hf; try simp only [hf]
     exact ACall.mono hw fun _ _ _ h=>⟨h.1,hk _ _ _ h.2⟩
   · exact hw.elim
 · split at hw
   · exact hk _ _ _ hw
   · exact hk _ _ _ hw
   · exact ⟨hw.1,hk _ _ _ hw.2⟩
   · exact hk _ _ _ hw
   · exact hw.elim
 · exact aop_mono hw hk
theorem awpD_mono {P:Program} {K K':Env→Heap→Nat→Prop} (hk:∀ s h n,K s h n→K' s h n):∀ {t:DT} {s:Env} {h:Heap} {n:Nat},awpD P t s h n K→awpD P t s h n K'
 | .fin,s,h,n,hw=>hk s h n hw
 | .stuck,_,_,_,hw=>hw.elim
 | .both a b,s,h,n,hw=>⟨awpD_mono hk hw.1,awpD_mono hk hw.2⟩
 | .op o t,s,h,n,hw=>by
   simp only [awpD] at hw ⊢
   cases hg:o.g with
   | none=>rw [hg] at hw; exact aopD_mono hw fun _ _ _ h=>awpD_mono hk h
   | some p=>
     obtain ⟨j,want⟩:=p
     rw [hg] at hw
     simp only at hw ⊢
     cases hs:s j <;> rw [hs] at hw <;> try exact hw.elim
     · exact ⟨fun e=>aopD_mono (hw.1 e) fun _ _ _ h=>awpD_mono hk h,fun e=>awpD_mono hk (hw.2 e)⟩
     · rename_i vs
       cases vs
       · exact awpD_mono hk hw
       · exact hw.elim
 | .hop o ps t,s,h,n,hw=>by
   simp only [awpD] at hw ⊢
   cases hg:o.g with
   | none=>rw [hg] at hw; exact aopD_mono hw fun _ _ _ h=>⟨h.1,awpD_mono hk h.2⟩
   | some p=>
     obtain ⟨j,want⟩:=p
     rw [hg] at hw
     simp only at hw ⊢
     cases hs:s j <;> rw [hs] at hw <;> try exact hw.elim
     · exact ⟨fun e=>aopD_mono (hw.1 e) fun _ _ _ h=>⟨h.1,awpD_mono hk h.2⟩,fun e=>awpD_mono hk (hw.2 e)⟩
     · rename_i vs
       cases vs
       · exact awpD_mono hk hw
       · exact hw.elim
theorem awp_mono {P:Program} : ∀ {a:AC} {s:Env} {h:Heap} {n:Nat} {Q Q':Fin},awp P a s h n Q→(∀ e s h n,Q e s h n→Q' e s h n)→awp P a s h n Q':=by
 intro a
 induction a with
 | skip=>intro s h n Q Q' hw hq; exact hq _ _ _ _ hw
 | reg os=>intro s h n Q Q' hw hq; exact awpO_mono (hq .normal) hw
 | seq a b iha ihb=>
   intro s h n Q Q' hw hq
   refine iha hw fun e s h n hh => ?_
   cases e
   · exact ihb hh hq
   · exact hq _ _ _ _ hh
   · exact hq _ _ _ _ hh
 | cond c a b iha ihb=>
   intro s h n Q Q' hw hq
   simp only [awp] at hw ⊢
   split at hw
   · exact ⟨fun e=>iha (hw.1 e) hq,fun e=>ihb (hw.2 e) hq⟩
   · exact hw.elim
 | blk id a iha=>
   intro s h n Q Q' hw hq
   refine iha hw fun e s h n hh => ?_
   cases e
   · exact hq _ _ _ _ hh
   · simp only at hh ⊢; split
     · rename_i hx; rw [if_pos hx] at hh; exact hq _ _ _ _ hh
     · rename_i hx; rw [if_neg hx] at hh; exact hq _ _ _ _ hh
   · exact hq _ _ _ _ hh
 | loop a iha=>
   intro s h n Q Q' hw hq
   obtain ⟨I,h0,hs⟩:=hw
   refine ⟨I,h0,fun k s h n hi=>iha (hs k s h n hi) fun e s h n hh => ?_⟩
   cases e
   · exact hh
   · exact hq _ _ _ _ hh
   · exact hq _ _ _ _ hh
 | exit id=>intro s h n Q Q' hw hq; exact hq _ _ _ _ hw
 | ret=>intro s h n Q Q' hw hq; exact hq _ _ _ _ hw
 | draw t=>intro s h n Q Q' hw hq; exact awpD_mono (hq .normal) hw
@[simp ↓ high] theorem rC_condt {P:Program} {ks:List Kt} {s:Env} {h:Heap} {n:Nat} {Q:Fin} {c:Opd} {a b:AC} (hc:ev s c = .bool true):rC P (.cond c a b) ks s h n Q=rC P a ks s h n Q:=by
 rw [rC_cond,hc]; simp [gd]
@[simp ↓ high] theorem rC_condf {P:Program} {ks:List Kt} {s:Env} {h:Heap} {n:Nat} {Q:Fin} {c:Opd} {a b:AC} (hc:ev s c = .bool false):rC P (.cond c a b) ks s h n Q=rC P b ks s h n Q:=by
 rw [rC_cond,hc]; simp [gd]
section
variable {P:Program} {s:Env} {h:Heap} {n:Nat} {ks:List Kt} {Q:Fin} {a:AC}
def forK (P:Program) (ks:List Kt) (Q:Fin) (keep:List Nat) (s0:Env) (ic i:Nat) (J:Nat→Env→Heap→Nat→Prop):Fin:=fun e s h n=>match e with
 | .normal=>(∀ j∈keep,s j=s0 j)∧s ic = .int .i64 ((i:Int)+1)∧J (i+1) s h n
 | e=>kont P ks e s h n Q
def endK (P:Program) (ks:List Kt) (Q:Fin):Fin:=fun e s h n=>match e with
 | .normal=>False
 | e=>kont P ks e s h n Q
@[simp ↓] theorem forK_normal {keep:List Nat} {s0 s':Env} {ic i:Nat} {J:Nat→Env→Heap→Nat→Prop} {h':Heap} {n':Nat} : forK P ks Q keep s0 ic i J .normal s' h' n'=((∀ j∈keep,s' j=s0 j)∧s' ic = .int .i64 ((i:Int)+1)∧J (i+1) s' h' n'):=propext Iff.rfl
@[simp ↓] theorem forK_ret {keep:List Nat} {s0 s':Env} {ic i:Nat} {J:Nat→Env→Heap→Nat→Prop} {h':Heap} {n':Nat} : forK P ks Q keep s0 ic i J .ret s' h' n'=kont P ks .ret s' h' n' Q:=propext Iff.rfl
@[simp ↓] theorem forK_exit {keep:List Nat} {s0 s':Env} {ic i x:Nat} {J:Nat→Env→Heap→Nat→Prop} {h':Heap} {n':Nat} : forK P ks Q keep s0 ic i J (.exit x) s' h' n'=kont P ks (.exit x) s' h' n' Q:=propext Iff.rfl
@[simp ↓] theorem endK_ret {s':Env} {h':Heap} {n':Nat} : endK P ks Q .ret s' h' n'=kont P ks .ret s' h' n' Q:=propext Iff.rfl
@[simp ↓] theorem endK_exit {x:Nat} {s':Env} {h':Heap} {n':Nat} : endK P ks Q (.exit x) s' h' n'=kont P ks (.exit x) s' h' n' Q:=propext Iff.rfl
theorem rL_forH (keep:List Nat) (ic N:Nat) (J:Nat→Env→Heap→Nat→Prop) (hN:N≤LIM) (hi0:s ic = .int .i64 0) (hJ0:J 0 s h n)
   (hstep:∀ i s' h' n',i<N→¬N≤i→(∀ j∈keep,s' j=s j)→s' ic = .int .i64 (i:Int)→IntKind.i64.wrap ((i:Int)+1)=(i:Int)+1→J i s' h' n'→rC P a [] s' h' n' (forK P ks Q keep s ic i J))
   (hend:∀ s' h' n',(∀ j∈keep,s' j=s j)→s' ic = .int .i64 (N:Int)→J N s' h' n'→rC P a [] s' h' n' (endK P ks Q)):rL P a ks s h n Q:=by
 refine rL_of (fun k s' h' n'=>∃ i:Nat,k=N - i∧i≤N∧(∀ j∈keep,s' j=s j)∧s' ic = .int .i64 (i:Int)∧J i s' h' n') N ⟨0,by simp,Nat.zero_le _,fun _ _=>rfl,hi0,hJ0⟩ ?_
 rintro k s' h' n' ⟨i,rfl,hi,hk,hic,hJ⟩
 unfold LIM at hN
 by_cases hlt:i<N
 · have:=hstep i s' h' n' hlt (by omega) hk hic (wrap64 (by omega)) hJ
   unfold rC at this ⊢
   refine awp_mono this ?_
   intro e s2 h2 n2 hq
   cases e
   · obtain ⟨q1,q2,q3⟩:=hq
     exact ⟨N - (i+1),by omega,i+1,rfl,by omega,q1,q2,q3⟩
   · exact hq
   · exact hq
 · have hiN:i=N:=by omega
   subst hiN
   have:=hend s' h' n' hk hic hJ
   unfold rC at this ⊢
   refine awp_mono this ?_
   intro e s2 h2 n2 hq
   cases e
   · exact hq.elim
   · exact hq
   · exact hq
theorem rL_for (keep:List Nat) (ic N:Nat) (J:Nat→Env→Prop) (hN:N≤LIM) (hi0:s ic = .int .i64 0) (hJ0:J 0 s)
   (hstep:∀ i s',i<N→¬N≤i→(∀ j∈keep,s' j=s j)→s' ic = .int .i64 (i:Int)→IntKind.i64.wrap ((i:Int)+1)=(i:Int)+1→J i s'→rC P a [] s' h n (forK P ks Q keep s ic i fun i s' h' n'=>J i s'∧h'=h∧n'=n))
   (hend:∀ s',(∀ j∈keep,s' j=s j)→s' ic = .int .i64 (N:Int)→J N s'→rC P a [] s' h n (endK P ks Q)):rL P a ks s h n Q:=by
 refine rL_forH keep ic N (fun i s' h' n'=>J i s'∧h'=h∧n'=n) hN hi0 ⟨hJ0,rfl,rfl⟩ ?_ ?_
 · rintro i s' h' n' hi hg hk hic hw ⟨hJ,rfl,rfl⟩; exact hstep i s' hi hg hk hic hw hJ
 · rintro s' h' n' hk hic ⟨hJ,rfl,rfl⟩; exact hend s' hk hic hJ
theorem rL_forO (keep:List Nat) (ic N:Nat) (J:Nat→Env→Heap→Nat→Prop) (hN:N≤LIM) (hi0:s ic = .int .i64 0) (hJ0:J 0 s h n)
   (hstep:∀ i s' h' n' (R:Fin),i<N→¬N≤i→(∀ j∈keep,s' j=s j)→s' ic = .int .i64 (i:Int)→IntKind.i64.wrap ((i:Int)+1)=(i:Int)+1→J i s' h' n' →
     (∀ s'' h'' n'',(∀ j∈keep,s'' j=s j)→s'' ic = .int .i64 ((i:Int)+1)→J (i+1) s'' h'' n''→R .normal s'' h'' n'') →
     (∀ s'' h'' n'',kont P ks .ret s'' h'' n'' Q→R .ret s'' h'' n'')→(∀ x s'' h'' n'',kont P ks (.exit x) s'' h'' n'' Q→R (.exit x) s'' h'' n'')→rC P a [] s' h' n' R)
   (hend:∀ s' h' n' (R:Fin),(∀ j∈keep,s' j=s j)→s' ic = .int .i64 (N:Int)→J N s' h' n' →
     (∀ s'' h'' n'',kont P ks .ret s'' h'' n'' Q→R .ret s'' h'' n'')→(∀ x s'' h'' n'',kont P ks (.exit x) s'' h'' n'' Q→R (.exit x) s'' h'' n'')→rC P a [] s' h' n' R):rL P a ks s h n Q:=by
 refine rL_forH keep ic N J hN hi0 hJ0 ?_ ?_
 · intro i s' h' n' hi hg hk hic hw hJ
   exact hstep i s' h' n' _ hi hg hk hic hw hJ (fun _ _ _ h1 h2 h3=>⟨h1,h2,h3⟩) (fun _ _ _ h=>h) (fun _ _ _ _ h=>h)
 · intro s' h' n' hk hic hJ
   exact hend s' h' n' _ hk hic hJ (fun _ _ _ h=>h) (fun _ _ _ _ h=>h)
theorem rL_forS (keep:List Nat) (ic N:Nat) (J:Nat→Env→Prop) (hN:N≤LIM) (hi0:s ic = .int .i64 0) (hJ0:J 0 s)
   (hstep:∀ i s' h' (R:Fin),i<N→¬N≤i→(∀ j∈keep,s' j=s j)→s' ic = .int .i64 (i:Int)→IntKind.i64.wrap ((i:Int)+1)=(i:Int)+1→J i s'→(∀ id,h' id=h id) →
     (∀ s'',(∀ j∈keep,s'' j=s j)→s'' ic = .int .i64 ((i:Int)+1)→J (i+1) s''→R .normal s'' h' n) →
     (∀ s'' h'' n'',kont P ks .ret s'' h'' n'' Q→R .ret s'' h'' n'')→(∀ x s'',kont P ks (.exit x) s'' h n Q→R (.exit x) s'' h' n)→rC P a [] s' h' n R)
   (hend:∀ s' h' (R:Fin),(∀ j∈keep,s' j=s j)→s' ic = .int .i64 (N:Int)→J N s'→(∀ id,h' id=h id) →
     (∀ s'' h'' n'',kont P ks .ret s'' h'' n'' Q→R .ret s'' h'' n'')→(∀ x s'',kont P ks (.exit x) s'' h n Q→R (.exit x) s'' h' n)→rC P a [] s' h' n R):rL P a ks s h n Q:=by
 refine rL_for keep ic N J hN hi0 hJ0 ?_ ?_
 · intro i s' hi hg hk hic hw hJ
   exact hstep i s' h _ hi hg hk hic hw hJ (fun _=>rfl) (fun _ h1 h2 h3=>⟨h1,h2,h3,rfl,rfl⟩) (fun _ _ _ h=>h) (fun _ _ h=>h)
 · intro s' hk hic hJ
   exact hend s' h _ hk hic hJ (fun _=>rfl) (fun _ _ _ h=>h) (fun _ _ h=>h)
end
end Go.Proofs.Ytoclolkigjbcgaa

namespace Go.Proofs.Ytoclolkigjbcgaa
set_option linter.all false
open Go Go.RowKit
mutual
def dS:AV→Nat→AV×List Blk
 | .us sz rows,n=>(.ref n 0 rows.length,⟨true,sz,(dSr rows (n+1)).1⟩::(dSr rows (n+1)).2)
 | .agg cs,n=>(.agg (dSl cs n).1,(dSl cs n).2)
 | .tup cs,n=>(.tup (dSl cs n).1,(dSl cs n).2)
 | a,_=>(a,[])
def dSl:List AV→Nat→List AV×List Blk
 | [],_=>([],[])
 | a::as,n=>((dS a n).1::(dSl as (n+(dS a n).2.length)).1,(dS a n).2++(dSl as (n+(dS a n).2.length)).2)
def dSr:List (List AV)→Nat→List (List AV)×List Blk
 | [],_=>([],[])
 | r::rs,n=>((dSl r n).1::(dSr rs (n+(dSl r n).2.length)).1,(dSl r n).2++(dSr rs (n+(dSl r n).2.length)).2)
end
theorem dSl_length:∀ (as:List AV) (n:Nat),(dSl as n).1.length=as.length
 | [],_=>rfl
 | a::as,n=>by simp [dSl,dSl_length as]
theorem dSr_length:∀ (rs:List (List AV)) (n:Nat),(dSr rs n).1.length=rs.length
 | [],_=>rfl
 | r::rs,n=>by simp [dSr,dSr_length rs]
theorem dSr_rows:∀ (rs:List (List AV)) (n:Nat),∀ r'∈(dSr rs n).1,∃ r∈rs,r'.length=r.length
 | [],_,r',h=>by simp [dSr] at h
 | r::rs,n,r',h=>by
   simp only [dSr,List.mem_cons] at h
   rcases h with rfl | h
   · exact ⟨r,by simp,dSl_length r n⟩
   · obtain ⟨x,hx,e⟩:=dSr_rows rs _ r' h
     exact ⟨x,by simp [hx],e⟩
mutual
def TR (h:Heap):AV→AV→List Nat→Prop
 | .us sz rows,a,I=>∃ id rows' I',a = .ref id 0 rows.length∧I=id::I'∧h id=some ⟨true,sz,rows'⟩∧TRr h rows rows' I'
 | .agg cs,a,I=>∃ cs',a = .agg cs'∧TRl h cs cs' I
 | .tup cs,a,I=>∃ cs',a = .tup cs'∧TRl h cs cs' I
 | .int k n,a,I=>a = .int k n∧I=[]
 | .bool b,a,I=>a = .bool b∧I=[]
 | .str s,a,I=>a = .str s∧I=[]
 | .nilp,a,I=>a = .nilp∧I=[]
 | _,_,_=>False
def TRl (h:Heap):List AV→List AV→List Nat→Prop
 | [],as,I=>as=[]∧I=[]
 | c::cs,as,I=>∃ a as' I1 I2,as=a::as'∧I=I1++I2∧TR h c a I1∧TRl h cs as' I2
def TRr (h:Heap):List (List AV)→List (List AV)→List Nat→Prop
 | [],rs,I=>rs=[]∧I=[]
 | r::rows,rs,I=>∃ a rs' I1 I2,rs=a::rs'∧I=I1++I2∧TRl h r a I1∧TRr h rows rs' I2
end
section
variable {h h':Heap}
mutual
theorem TR_frame:∀ (t:AV) {a:AV} {I:List Nat},(∀ id∈I,h' id=h id)→TR h t a I→TR h' t a I
 | .us sz rows,a,I,hf,ht=>by
   simp only [TR] at ht ⊢
   obtain ⟨id,rows',I',e1,rfl,e2,e3⟩:=ht
   exact ⟨id,rows',I',e1,rfl,(hf id (by simp)).trans e2,TRr_frame rows (fun id hi=>hf id (by simp [hi])) e3⟩
 | .agg cs,a,I,hf,ht=>by
   simp only [TR] at ht ⊢
   obtain ⟨cs',e1,e2⟩:=ht
   exact ⟨cs',e1,TRl_frame cs hf e2⟩
 | .tup cs,a,I,hf,ht=>by
   simp only [TR] at ht ⊢
   obtain ⟨cs',e1,e2⟩:=ht
   exact ⟨cs',e1,TRl_frame cs hf e2⟩
 | .int ..,_,_,_,ht | .bool _,_,_,_,ht | .str _,_,_,_,ht | .nilp,_,_,_,ht=>by simpa only [TR] using ht
 | .undef,_,_,_,ht | .nil _,_,_,_,ht | .ptr ..,_,_,_,ht | .fptr ..,_,_,_,ht | .ref ..,_,_,_,ht | .sl ..,_,_,_,ht | .fn ..,_,_,_,ht | .mp _,_,_,_,ht=>by simp only [TR] at ht
theorem TRl_frame:∀ (ts:List AV) {as:List AV} {I:List Nat},(∀ id∈I,h' id=h id)→TRl h ts as I→TRl h' ts as I
 | [],as,I,hf,ht=>by simpa only [TRl] using ht
 | t::ts,as,I,hf,ht=>by
   simp only [TRl] at ht ⊢
   obtain ⟨a,as',I1,I2,e1,rfl,e2,e3⟩:=ht
   exact ⟨a,as',I1,I2,e1,rfl,TR_frame t (fun id hi=>hf id (by simp [hi])) e2,TRl_frame ts (fun id hi=>hf id (by simp [hi])) e3⟩
theorem TRr_frame:∀ (ts:List (List AV)) {as:List (List AV)} {I:List Nat},(∀ id∈I,h' id=h id)→TRr h ts as I→TRr h' ts as I
 | [],as,I,hf,ht=>by simpa only [TRr] using ht
 | t::ts,as,I,hf,ht=>by
   simp only [TRr] at ht ⊢
   obtain ⟨a,as',I1,I2,e1,rfl,e2,e3⟩:=ht
   exact ⟨a,as',I1,I2,e1,rfl,TRl_frame t (fun id hi=>hf id (by simp [hi])) e2,TRr_frame ts (fun id hi=>hf id (by simp [hi])) e3⟩
end
theorem TRl_length:∀ {ts as:List AV} {I:List Nat},TRl h ts as I→as.length=ts.length
 | [],as,I,ht=>by simp only [TRl] at ht; rw [ht.1]
 | t::ts,as,I,ht=>by
   simp only [TRl] at ht
   obtain ⟨a,as',I1,I2,rfl,_,_,e3⟩:=ht
   simp [TRl_length e3]
theorem TRr_length:∀ {ts as:List (List AV)} {I:List Nat},TRr h ts as I→as.length=ts.length
 | [],as,I,ht=>by simp only [TRr] at ht; rw [ht.1]
 | t::ts,as,I,ht=>by
   simp only [TRr] at ht
   obtain ⟨a,as',I1,I2,rfl,_,_,e3⟩:=ht
   simp [TRr_length e3]
theorem TRr_rows:∀ {ts as:List (List AV)} {I:List Nat},TRr h ts as I→∀ r∈ts,∃ r'∈as,r'.length=r.length
 | [],as,I,ht,r,hr=>by simp at hr
 | t::ts,as,I,ht,r,hr=>by
   simp only [TRr] at ht
   obtain ⟨a,as',I1,I2,rfl,_,e2,e3⟩:=ht
   rcases List.mem_cons.1 hr with rfl | hr
   · exact ⟨a,by simp,TRl_length e2⟩
   · obtain ⟨r',h1,h2⟩:=TRr_rows e3 r hr
     exact ⟨r',by simp [h1],h2⟩
theorem TRr_split:∀ {ts as:List (List AV)} {I:List Nat} {i:Nat} {t:List AV},TRr h ts as I→ts[i]? = some t →
   ∃ a I1 I2 I3,as[i]? = some a∧I=I1++(I2++I3)∧TRl h t a I2 ∧
     ∀ (h':Heap) t' a',(∀ id∈I1++I3,h' id=h id)→TRl h' t' a' I2→TRr h' (ts.set i t') (as.set i a') I
 | [],as,I,i,t,ht,hi=>by simp at hi
 | x::ts,as,I,i,t,ht,hi=>by
   simp only [TRr] at ht
   obtain ⟨a,as',J1,J2,rfl,rfl,e2,e3⟩:=ht
   cases i with
   | zero=>
     simp only [List.getElem?_cons_zero,Option.some.injEq] at hi; subst hi
     refine ⟨a,[],J1,J2,rfl,rfl,e2,?_⟩
     intro h' t' a' hf ht'
     simp only [List.set_cons_zero,TRr]
     exact ⟨a',as',J1,J2,rfl,rfl,ht',TRr_frame ts (fun id hi=>hf id (by simpa using hi)) e3⟩
   | succ i=>
     simp only [List.getElem?_cons_succ] at hi
     obtain ⟨b,I1,I2,I3,g1,rfl,g3,g4⟩:=TRr_split e3 hi
     refine ⟨b,J1++I1,I2,I3,by simpa using g1,by simp,g3,?_⟩
     intro h' t' a' hf ht'
     simp only [List.set_cons_succ,TRr]
     exact ⟨a,_,J1,_,rfl,rfl,TRl_frame x (fun id hi=>hf id (by simp [hi])) e2,g4 h' t' a' (fun id hi=>hf id (by simp at hi ⊢; rcases hi with hi | hi <;> simp [hi])) ht'⟩
end
def blk1:Loc→List Nat
 | .at b _ _=>[b]
 | .none=>[]
structure DD (w:World) (bs:List Blk) (ls:List Loc) (S:List Nat) (n:Nat):Prop where
 len:ls.length=bs.length
 S:S=(ls.map blk1).flatten
 brel:∀ (L:Nat→Option Loc) (n':Nat),n+bs.length≤n'→(∀ (i:Nat) l,ls[i]? = some l→L (n+i)=some l)→∀ (i:Nat) B l,bs[i]? = some B→ls[i]? = some l→BRel w L n' B l []
theorem DD.nil (w:World) (n:Nat):DD w [] [] [] n:=⟨rfl,rfl,by simp⟩
theorem DD.append {w:World} {bs bs':List Blk} {ls ls':List Loc} {S S':List Nat} {n:Nat} (d:DD w bs ls S n) (d':DD w bs' ls' S' (n+bs.length)) :
   DD w (bs++bs') (ls++ls') (S++S') n:=by
 refine ⟨by simp [d.len,d'.len],by simp [d.S,d'.S],?_⟩
 intro L n' hn hL i B l hB hl
 simp only [List.length_append] at hn
 by_cases hi:i<bs.length
 · rw [List.getElem?_append_left hi] at hB
   rw [List.getElem?_append_left (by rw [d.len]; exact hi)] at hl
   refine d.brel L n' (by omega) (fun j l' hj=>hL j l' ?_) i B l hB hl
   rw [List.getElem?_append_left (List.getElem?_eq_some_iff.1 hj).1]; exact hj
 · rw [List.getElem?_append_right (by omega)] at hB
   rw [List.getElem?_append_right (by rw [d.len]; omega),d.len] at hl
   refine d'.brel L n' (by omega) (fun j l' hj => ?_) _ B l hB hl
   have:=hL (bs.length+j) l' (by rw [List.getElem?_append_right (by rw [d.len]; omega),d.len,Nat.add_sub_cancel_left]; exact hj)
   rw [←this]; congr 1; omega
section
variable {w:World}
mutual
theorem dS_data:∀ (r:AV) (n:Nat) (v:Value) (S:List Nat),clean r=true→VR w Lo 0 r v S →
   ∃ ls,DD w (dS r n).2 ls S n∧∀ (L:Nat→Option Loc) (n':Nat),n+(dS r n).2.length≤n'→(∀ (i:Nat) l,ls[i]? = some l→L (n+i)=some l)→VR w L n' (dS r n).1 v []
 | .undef,_,_,_,c,_ | .nil _,_,_,_,c,_ | .ptr ..,_,_,_,c,_ | .fptr ..,_,_,_,c,_ | .ref ..,_,_,_,c,_ | .sl ..,_,_,_,c,_ | .fn ..,_,_,_,c,_ | .mp ..,_,_,_,c,_=>by simp [clean] at c
 | .int ..,n,v,S,c,h=>by
   simp only [VR] at h; obtain ⟨rfl,rfl⟩:=h
   exact ⟨[],DD.nil w n,fun L n' _ _=>by simp [dS,VR]⟩
 | .bool _,n,v,S,c,h=>by
   simp only [VR] at h; obtain ⟨rfl,rfl⟩:=h
   exact ⟨[],DD.nil w n,fun L n' _ _=>by simp [dS,VR]⟩
 | .str _,n,v,S,c,h=>by
   simp only [VR] at h; obtain ⟨h1,rfl⟩:=h
   exact ⟨[],DD.nil w n,fun L n' _ _=>by simp only [dS,VR]; exact ⟨h1,trivial⟩⟩
 | .nilp,n,v,S,c,h=>by
   simp only [VR] at h; obtain ⟨rfl,rfl⟩:=h
   exact ⟨[],DD.nil w n,fun L n' _ _=>by simp [dS,VR]⟩
 | .us sz rows,n,v,S,c,h=>by
   simp only [VR,clean] at h c
   obtain ⟨hl,h⟩:=h
   rcases h with ⟨rfl,rfl,rfl⟩ | ⟨b,cap,cur,t,vals,rest,S',rfl,rfl,ho,hb,h1,h2,h3,h4,h5,h6,h6',h7⟩
   · refine ⟨[.none],⟨rfl,rfl,?_⟩,?_⟩
     · intro L n' hn hL i B l g1 g2
       cases i with
       | zero=>simp only [dS,dSr,List.getElem?_cons_zero,Option.some.injEq] at g1 g2; subst g1 g2; exact ⟨rfl,rfl⟩
       | succ i=>simp [dS,dSr] at g1
     · intro L n' hn hL
       have hL0:L n=some .none:=hL 0 _ rfl
       simp only [dS,VR]
       refine ⟨⟨by simp [dS] at hn; omega,rfl,?_⟩,trivial⟩
       intro l hl'
       rw [hL0] at hl'; cases hl'
       exact ⟨Nat.zero_le _,rfl,rfl,rfl⟩
   · obtain ⟨ls,d,k⟩:=dSr_data rows (n+1) vals S' c h7
     refine ⟨.at b sz cap::ls,⟨by simp [dS,d.len],by simp [blk1,d.S],?_⟩,?_⟩
     · intro L n' hn hL i B l g1 g2
       simp only [dS,List.length_cons] at hn
       have hL':∀ (i:Nat) l,ls[i]? = some l→L (n+1+i)=some l:=fun i l hi=>by
         have:=hL (i+1) l (by simpa using hi)
         rw [←this]; congr 1; omega
       cases i with
       | zero=>
         simp only [dS,List.getElem?_cons_zero,Option.some.injEq] at g1 g2; subst g1 g2
         refine BRel.of ⟨rfl,fun _=>rfl,cur,t,vals,rest,hb,h1,h2,h3,h5,by rw [dSr_length]; exact h4,by rw [dSr_length]; exact hl,?_,h6',?_⟩
         · intro r hr
           obtain ⟨x,hx,e⟩:=dSr_rows _ _ r hr
           rw [e]; exact h6 x hx
         · simp only [if_true]
           exact k L n' (by omega) hL'
       | succ i=>
         simp only [dS,List.getElem?_cons_succ] at g1 g2
         exact d.brel L n' (by omega) hL' i B l g1 g2
     · intro L n' hn hL
       have hL0:L n=some (.at b sz cap):=hL 0 _ rfl
       simp only [dS,VR]
       refine ⟨⟨by simp [dS] at hn; omega,rfl,?_⟩,trivial⟩
       intro l hl'
       rw [hL0] at hl'; cases hl'
       exact ⟨hl,some ⟨b,0,Option.none⟩,by simp,by simp,by omega⟩
 | .agg cs,n,v,S,c,h=>by
   simp only [VR,clean] at h c
   obtain ⟨vs,rfl,h⟩:=h
   obtain ⟨ls,h1,h2⟩:=dSl_data cs n _ _ c h
   exact ⟨ls,h1,fun L n' hn hL=>by simp only [dS,VR]; exact ⟨vs,rfl,h2 L n' hn hL⟩⟩
 | .tup cs,n,v,S,c,h=>by
   simp only [VR,clean] at h c
   obtain ⟨vs,rfl,h⟩:=h
   obtain ⟨ls,h1,h2⟩:=dSl_data cs n _ _ c h
   exact ⟨ls,h1,fun L n' hn hL=>by simp only [dS,VR]; exact ⟨vs,rfl,h2 L n' hn hL⟩⟩
theorem dSl_data:∀ (rs:List AV) (n:Nat) (vs:List Value) (S:List Nat),cleanl rs=true→VRl w Lo 0 rs vs S →
   ∃ ls,DD w (dSl rs n).2 ls S n∧∀ (L:Nat→Option Loc) (n':Nat),n+(dSl rs n).2.length≤n'→(∀ (i:Nat) l,ls[i]? = some l→L (n+i)=some l)→VRl w L n' (dSl rs n).1 vs []
 | [],n,vs,S,c,h=>by
   simp only [VRl] at h; obtain ⟨rfl,rfl⟩:=h
   exact ⟨[],DD.nil w n,fun L n' _ _=>by simp [dSl,VRl]⟩
 | a::as,n,vs,S,c,h=>by
   simp only [cleanl,Bool.and_eq_true] at c
   simp only [VRl] at h
   obtain ⟨v,vs',S1,S2,rfl,rfl,h1,h2⟩:=h
   obtain ⟨l1,d1,k1⟩:=dS_data a n v S1 c.1 h1
   obtain ⟨l2,d2,k2⟩:=dSl_data as (n+(dS a n).2.length) vs' S2 c.2 h2
   refine ⟨l1++l2,d1.append d2,?_⟩
   intro L n' hn hL
   simp only [dSl,List.length_append] at hn
   simp only [dSl]
   refine VRl_nil_cons.2 ⟨v,vs',rfl,k1 L n' (by omega) ?_,k2 L n' (by omega) ?_⟩
   · intro i p hp
     refine hL i p ?_
     rw [List.getElem?_append_left (List.getElem?_eq_some_iff.1 hp).1]; exact hp
   · intro i p hp
     have:=hL ((dS a n).2.length+i) p (by rw [←d1.len,List.getElem?_append_right (by omega),Nat.add_sub_cancel_left]; exact hp)
     rw [←this]; congr 1; omega
theorem dSr_data:∀ (rs:List (List AV)) (n:Nat) (vs:List Value) (S:List Nat),cleanr rs=true→VRr w Lo 0 rs vs S →
   ∃ ls,DD w (dSr rs n).2 ls S n∧∀ (L:Nat→Option Loc) (n':Nat),n+(dSr rs n).2.length≤n'→(∀ (i:Nat) l,ls[i]? = some l→L (n+i)=some l)→VRr w L n' (dSr rs n).1 vs []
 | [],n,vs,S,c,h=>by
   simp only [VRr] at h; obtain ⟨rfl,rfl⟩:=h
   exact ⟨[],DD.nil w n,fun L n' _ _=>by simp [dSr,VRr]⟩
 | a::as,n,vs,S,c,h=>by
   simp only [cleanr,Bool.and_eq_true] at c
   simp only [VRr] at h
   obtain ⟨v,vs',S1,S2,rfl,rfl,h1,h2⟩:=h
   obtain ⟨l1,d1,k1⟩:=dSl_data a n v S1 c.1 h1
   obtain ⟨l2,d2,k2⟩:=dSr_data as (n+(dSl a n).2.length) vs' S2 c.2 h2
   refine ⟨l1++l2,d1.append d2,?_⟩
   intro L n' hn hL
   simp only [dSr,List.length_append] at hn
   simp only [dSr,VRr]
   refine ⟨v,vs',[],[],rfl,rfl,k1 L n' (by omega) ?_,k2 L n' (by omega) ?_⟩
   · intro i p hp
     refine hL i p ?_
     rw [List.getElem?_append_left (List.getElem?_eq_some_iff.1 hp).1]; exact hp
   · intro i p hp
     have:=hL ((dSl a n).2.length+i) p (by rw [←d1.len,List.getElem?_append_right (by omega),Nat.add_sub_cancel_left]; exact hp)
     rw [←this]; congr 1; omega
end
end
def addB (h:Heap) (n:Nat) (bs:List Blk):Heap:=fun id=>if n≤id then (match bs[id - n]? with | some B=>some B | Option.none=>h id) else h id
theorem HRel.takeD {base:Nat} {w0 w1 w:World} {L:Nat→Option Loc} {N:Nat} {F:Nat→List Nat} {h:Heap} {r:AV} {v:Value} {S:List Nat}
   (H:HRel base w0 w1 L N F [] h) (hb:Below w1.heap.size w1 w) (hc:clean r=true) (hv:VR w Lo 0 r v S) (hn:S.Nodup) (hS:∀ b∈S,w1.heap.size≤b∧b<w.heap.size) :
   ∃ L' F',HRel base w0 w L' (N+(dS r N).2.length) F' [] (addB h N (dS r N).2)∧VR w L' (N+(dS r N).2.length) (dS r N).1 v []∧Ext w1 L N w L' (N+(dS r N).2.length):=by
 obtain ⟨ls,d,k⟩:=dS_data r N v S hc hv
 generalize hbs:(dS r N).2=bs at *
 let L':Nat→Option Loc:=fun id=>if N≤id then (match ls[id - N]? with | some p=>some p | Option.none=>L id) else L id
 let F':Nat→List Nat:=fun id=>if N≤id then [] else F id
 have hLN:∀ id,N≤id→L id=Option.none:=fun id hid=>by
   cases hl:L id with
   | none=>rfl
   | some l=>exact absurd (H.lt id l hl) (by omega)
 have Lold:∀ id,id<N→L' id=L id:=fun id hid=>by show (if N≤id then _ else _)=_; rw [if_neg (by omega)]
 have Fold:∀ id,id<N→F' id=F id:=fun id hid=>by show (if N≤id then _ else _)=_; rw [if_neg (by omega)]
 have Lnew:∀ (i:Nat) p,ls[i]? = some p→L' (N+i)=some p:=fun i p hp=>by
   show (if N≤N+i then _ else _)=_; rw [if_pos (by omega),Nat.add_sub_cancel_left,hp]
 have Fcase:∀ id b,b∈F' id→id<N∧b∈F id:=fun id b hm=>by
   by_cases hid:N≤id
   · have:F' id=[]:=by show (if N≤id then _ else _)=_; rw [if_pos hid]
     rw [this] at hm; cases hm
   · rw [Fold id (by omega)] at hm; exact ⟨by omega,hm⟩
 have Lcase:∀ id l,L' id=some l→(id<N∧L id=some l)∨∃ i:Nat,id=N+i∧ls[i]? = some l:=fun id l hl=>by
   by_cases hid:N≤id
   · cases hp:ls[id - N]? with
     | none=>
       have:L' id=L id:=by show (if N≤id then _ else _)=_; rw [if_pos hid,hp]
       rw [this,hLN id hid] at hl; cases hl
     | some p=>
       right
       have:=Lnew (id - N) p hp
       rw [show N+(id - N)=id by omega] at this
       rw [this] at hl; cases hl
       exact ⟨id - N,by omega,hp⟩
   · left; rw [Lold id (by omega)] at hl; exact ⟨by omega,hl⟩
 have hnd:(ls.map blk1).flatten.Nodup:=d.S ▸ hn
 have hatb:∀ (i b sz cap:Nat),ls[i]? = some (Loc.at b sz cap)→b∈S:=fun i b sz cap hp=>by
   rw [d.S]; exact List.mem_flatten.2 ⟨blk1 (.at b sz cap),List.mem_map.2 ⟨_,List.mem_of_getElem? hp,rfl⟩,by simp [blk1]⟩
 have ownL':∀ b,Own L' b→Own L b∨b∈S:=by
   rintro b ⟨id,sz,cap,hid⟩
   rcases Lcase id _ hid with ⟨_,hl⟩ | ⟨i,rfl,hp⟩
   · exact .inl ⟨id,sz,cap,hl⟩
   · exact .inr (hatb i b sz cap hp)
 have e:Ext w1 L N w L' (N+bs.length):=by
   refine ⟨by omega,?_,hb.size,?_⟩
   · intro id l hid hl; rw [Lold id hid] at hl; exact hl
   · intro b hlt ho
     refine ⟨hb.block b hlt,fun h' => ?_⟩
     rcases ownL' b h' with h' | h'
     · exact ho h'
     · have:=(hS b h').1; omega
 have hlen:=d.len
 refine ⟨L',F',⟨H.below.trans (hb.mono H.bsz),Nat.le_trans H.bsz hb.size,?_,?_,?_,?_,?_,?_,?_,by simp,?_,List.nodup_nil,?_,by simp⟩,k L' _ (Nat.le_refl _) Lnew,e⟩
 · intro id hid
   unfold addB at hid
   by_cases hN:N≤id
   · rw [if_pos hN] at hid
     cases hr:bs[id - N]? with
     | none=>
       rw [hr] at hid
       have hls:ls[id - N]? = Option.none:=by rw [List.getElem?_eq_none_iff] at hr ⊢; omega
       show (if N≤id then _ else _)=_
       rw [if_pos hN,hls]; exact hLN id hN
     | some r'=>rw [hr] at hid; cases hid
   · rw [if_neg hN] at hid
     rw [Lold id (by omega)]; exact H.dom id hid
 · intro id hid
   unfold addB
   by_cases hN:N≤id
   · rw [if_pos hN]
     cases hr:bs[id - N]? with
     | none=>exact H.mod id (hLN id hN)
     | some r'=>
       have:id - N<ls.length:=by rw [hlen]; exact (List.getElem?_eq_some_iff.1 hr).1
       have:=Lnew (id - N) _ (List.getElem?_eq_getElem this)
       rw [show N+(id - N)=id by omega,hid] at this; cases this
   · rw [if_neg hN]; rw [Lold id (by omega)] at hid; exact H.mod id hid
 · intro id l hl
   rcases Lcase id l hl with ⟨h1,_⟩ | ⟨i,rfl,hp⟩
   · omega
   · have:=(List.getElem?_eq_some_iff.1 hp).1; omega
 · intro id id' b sz cap sz' cap' h1 h2
   rcases Lcase id _ h1 with ⟨_,h1⟩ | ⟨i,rfl,hp⟩
   · rcases Lcase id' _ h2 with ⟨_,h2⟩ | ⟨i',rfl,hp'⟩
     · exact H.inj id id' b _ _ _ _ h1 h2
     · have g1:=H.own_lt ⟨id,sz,cap,h1⟩
       have g2:=(hS b (hatb i' b sz' cap' hp')).1
       omega
   · rcases Lcase id' _ h2 with ⟨_,h2⟩ | ⟨i',rfl,hp'⟩
     · have g1:=H.own_lt ⟨id',sz',cap',h2⟩
       have g2:=(hS b (hatb i b sz cap hp)).1
       omega
     · rw [nodup_flatten_get hnd i i' b _ _ (by rw [List.getElem?_map,hp]; rfl) (by rw [List.getElem?_map,hp']; rfl) (by simp [blk1]) (by simp [blk1])]
 · intro b ho
   rcases ownL' b ho with h' | h'
   · exact H.lo b h'
   · exact Nat.le_trans H.bsz (hS b h').1
 · intro id B l h1 h2
   rcases Lcase id l h2 with ⟨hid,hl⟩ | ⟨i,rfl,hp⟩
   · unfold addB at h1
     rw [if_neg (by omega)] at h1
     rw [Fold id hid]
     exact (H.blk id B l h1 hl).ext e fun b sz cap hl'=>hb.block b (H.own_lt ⟨id,sz,cap,hl' ▸ hl⟩)
   · have hF:F' (N+i)=[]:=by show (if N≤N+i then _ else _)=_; rw [if_pos (by omega)]
     rw [hF]
     unfold addB at h1
     rw [if_pos (by omega),Nat.add_sub_cancel_left] at h1
     have hi:i<bs.length:=by have:=(List.getElem?_eq_some_iff.1 hp).1; omega
     rw [List.getElem?_eq_getElem hi] at h1
     simp only [Option.some.injEq] at h1
     subst h1
     exact d.brel L' _ (Nat.le_refl _) Lnew i _ l (List.getElem?_eq_getElem hi) hp
 · intro id b hm
   obtain ⟨_,h1⟩:=Fcase id b hm
   obtain ⟨g1,g2,g3⟩:=H.fp id b h1
   exact ⟨(e.block b g3 g1).2,g2,Nat.lt_of_lt_of_le g3 hb.size⟩
 · intro id
   by_cases hid:N≤id
   · have:F' id=[]:=by show (if N≤id then _ else _)=_; rw [if_pos hid]
     rw [this]; exact List.nodup_nil
   · rw [Fold id (by omega)]; exact H.nd id
 · intro id id' b h1 h2
   exact H.dj id id' b (Fcase id b h1).2 (Fcase id' b h2).2
section
variable {h:Heap}
mutual
theorem TR_dS:∀ (r:AV) (n:Nat),clean r=true→(∀ (i:Nat) B,(dS r n).2[i]? = some B→h (n+i)=some B)→TR h r (dS r n).1 (List.range' n (dS r n).2.length)
 | .undef,_,c,_ | .nil _,_,c,_ | .ptr ..,_,c,_ | .fptr ..,_,c,_ | .ref ..,_,c,_ | .sl ..,_,c,_ | .fn ..,_,c,_ | .mp ..,_,c,_=>by simp [clean] at c
 | .int ..,n,c,hh | .bool _,n,c,hh | .str _,n,c,hh | .nilp,n,c,hh=>by simp [dS,TR]
 | .us sz rows,n,c,hh=>by
   simp only [clean] at c
   simp only [dS,TR,List.length_cons]
   refine ⟨n,(dSr rows (n+1)).1,List.range' (n+1) (dSr rows (n+1)).2.length,rfl,by rw [List.range'_succ],by simpa using hh 0 _ (by simp [dS]),TRr_dS rows (n+1) c ?_⟩
   intro i B hB
   have:=hh (i+1) B (by simpa [dS] using hB)
   rw [←this]; congr 1; omega
 | .agg cs,n,c,hh=>by
   simp only [clean] at c
   simp only [dS,TR]
   exact ⟨_,rfl,TRl_dS cs n c (by simpa only [dS] using hh)⟩
 | .tup cs,n,c,hh=>by
   simp only [clean] at c
   simp only [dS,TR]
   exact ⟨_,rfl,TRl_dS cs n c (by simpa only [dS] using hh)⟩
theorem TRl_dS:∀ (rs:List AV) (n:Nat),cleanl rs=true→(∀ (i:Nat) B,(dSl rs n).2[i]? = some B→h (n+i)=some B)→TRl h rs (dSl rs n).1 (List.range' n (dSl rs n).2.length)
 | [],n,c,hh=>by simp [dSl,TRl]
 | a::as,n,c,hh=>by
   simp only [cleanl,Bool.and_eq_true] at c
   simp only [dSl,TRl]
   refine ⟨_,_,List.range' n (dS a n).2.length,List.range' (n+(dS a n).2.length) (dSl as (n+(dS a n).2.length)).2.length,rfl,?_,TR_dS a n c.1 ?_,TRl_dS as _ c.2 ?_⟩
   · rw [List.length_append,List.range'_append_1]
   · intro i B hB
     refine hh i B ?_
     simp only [dSl]
     rw [List.getElem?_append_left (List.getElem?_eq_some_iff.1 hB).1]; exact hB
   · intro i B hB
     have:=hh ((dS a n).2.length+i) B (by simp only [dSl]; rw [List.getElem?_append_right (by omega),Nat.add_sub_cancel_left]; exact hB)
     rw [←this]; congr 1; omega
theorem TRr_dS:∀ (rs:List (List AV)) (n:Nat),cleanr rs=true→(∀ (i:Nat) B,(dSr rs n).2[i]? = some B→h (n+i)=some B)→TRr h rs (dSr rs n).1 (List.range' n (dSr rs n).2.length)
 | [],n,c,hh=>by simp [dSr,TRr]
 | a::as,n,c,hh=>by
   simp only [cleanr,Bool.and_eq_true] at c
   simp only [dSr,TRr]
   refine ⟨_,_,List.range' n (dSl a n).2.length,List.range' (n+(dSl a n).2.length) (dSr as (n+(dSl a n).2.length)).2.length,rfl,?_,TRl_dS a n c.1 ?_,TRr_dS as _ c.2 ?_⟩
   · rw [List.length_append,List.range'_append_1]
   · intro i B hB
     refine hh i B ?_
     simp only [dSr]
     rw [List.getElem?_append_left (List.getElem?_eq_some_iff.1 hB).1]; exact hB
   · intro i B hB
     have:=hh ((dSl a n).2.length+i) B (by simp only [dSr]; rw [List.getElem?_append_right (by omega),Nat.add_sub_cancel_left]; exact hB)
     rw [←this]; congr 1; omega
end
end
section
variable {base:Nat} {w0 w:World} {L:Nat→Option Loc} {N:Nat} {F:Nat→List Nat} {E:List Nat} {h:Heap}
mutual
theorem TR_lend (H:HRel base w0 w L N F E h):∀ (t:AV) {a:AV} {I:List Nat} {v:Value} {M:Nat},TR h t a I→VR w L M a v []→VR w Lo 0 (dr t) v []
 | .undef,_,_,_,_,ht,_ | .nil _,_,_,_,_,ht,_ | .ptr ..,_,_,_,_,ht,_ | .fptr ..,_,_,_,_,ht,_ | .ref ..,_,_,_,_,ht,_ | .sl ..,_,_,_,_,ht,_ | .fn ..,_,_,_,_,ht,_ | .mp _,_,_,_,_,ht,_=>by simp only [TR] at ht
 | .int ..,a,I,v,M,ht,hv=>by simp only [TR] at ht; obtain ⟨rfl,_⟩:=ht; simpa only [VR,dr] using hv
 | .bool _,a,I,v,M,ht,hv=>by simp only [TR] at ht; obtain ⟨rfl,_⟩:=ht; simpa only [VR,dr] using hv
 | .str _,a,I,v,M,ht,hv=>by simp only [TR] at ht; obtain ⟨rfl,_⟩:=ht; simpa only [VR,dr] using hv
 | .nilp,a,I,v,M,ht,hv=>by simp only [TR] at ht; obtain ⟨rfl,_⟩:=ht; simpa only [VR,dr] using hv
 | .agg cs,a,I,v,M,ht,hv=>by
   simp only [TR] at ht; obtain ⟨cs',rfl,ht⟩:=ht
   simp only [VR,dr] at hv ⊢
   obtain ⟨vs,rfl,hv⟩:=hv
   exact ⟨vs,rfl,TRl_lend H cs ht hv⟩
 | .tup cs,a,I,v,M,ht,hv=>by
   simp only [TR] at ht; obtain ⟨cs',rfl,ht⟩:=ht
   simp only [VR,dr] at hv ⊢
   obtain ⟨vs,rfl,hv⟩:=hv
   exact ⟨vs,rfl,TRl_lend H cs ht hv⟩
 | .us sz rows,a,I,v,M,ht,hv=>by
   simp only [TR] at ht
   obtain ⟨id,rows',I',rfl,rfl,hB,hR⟩:=ht
   have hlr:=TRr_length hR
   have hlenT:(drr rows).length=rows.length:=by rw [drr_eq]; simp
   cases hl:L id with
   | none=>rw [H.mod id hl] at hB; cases hB
   | some l=>
     simp only [VR] at hv
     have hr:=hv.1.2.2 l hl
     have hbr:=H.blk id _ l hB hl
     cases l with
     | none=>
       obtain ⟨hrows,_⟩:=hbr
       simp only at hrows
       obtain ⟨_,_,hl0,rfl⟩:=hr
       have hr0:rows=[]:=List.eq_nil_of_length_eq_zero hl0
       subst hr0
       simp only [VR,dr,drr]
       exact ⟨⟨_,_,[],rfl,⟨Nat.zero_le _,Nat.le_refl _⟩,⟨rfl,rfl⟩,.inl trivial⟩,trivial⟩
     | «at» b sz' cap=>
       obtain ⟨hlim,A,rfl,hA,hcap⟩:=hr
       obtain ⟨rfl,hF,cur,t,vals,rest,h1,h2,h3,h4,h5,h6,h7,h8,h9,h10⟩:=hbr.cells hcap.2
       simp only [if_true] at h10
       rw [hF rfl] at h10
       have g:=TRr_lend H rows hR h10
       simp only [VR,dr,hlenT]
       refine ⟨⟨A,_,vals,rfl,⟨hlim,by omega⟩,g,?_⟩,trivial⟩
       right
       refine ⟨b,0,by simpa using hA (.inr rfl),not_own_Lo b,lt_of_heap h1,?_,?_,h9⟩
       · intro r hr
         rw [drr_eq] at hr
         obtain ⟨r',hr',rfl⟩:=List.mem_map.1 hr
         rw [drl_eq,List.length_map]
         obtain ⟨x,hx,e⟩:=TRr_rows hR r' hr'
         rw [←e]; exact h8 x hx
       · exact cells_of_row (pre:=[]) (vals:=vals) (rest:=rest) h1 (by rw [h2]; simp)
theorem TRl_lend (H:HRel base w0 w L N F E h):∀ (ts:List AV) {as:List AV} {I:List Nat} {vs:List Value} {M:Nat},TRl h ts as I→VRl w L M as vs []→VRl w Lo 0 (drl ts) vs []
 | [],as,I,vs,M,ht,hv=>by
   simp only [TRl] at ht; obtain ⟨rfl,_⟩:=ht
   simpa only [VRl,drl] using hv
 | t::ts,as,I,vs,M,ht,hv=>by
   simp only [TRl] at ht; obtain ⟨a,as',I1,I2,rfl,_,h1,h2⟩:=ht
   obtain ⟨v,vs',rfl,g1,g2⟩:=VRl_nil_cons.1 hv
   simp only [drl]
   exact VRl_nil_cons.2 ⟨v,vs',rfl,TR_lend H t h1 g1,TRl_lend H ts h2 g2⟩
theorem TRr_lend (H:HRel base w0 w L N F E h):∀ (ts:List (List AV)) {as:List (List AV)} {I:List Nat} {vs:List Value} {M:Nat},TRr h ts as I→VRr w L M as vs []→VRr w Lo 0 (drr ts) vs []
 | [],as,I,vs,M,ht,hv=>by
   simp only [TRr] at ht; obtain ⟨rfl,_⟩:=ht
   simpa only [VRr,drr] using hv
 | t::ts,as,I,vs,M,ht,hv=>by
   simp only [TRr] at ht; obtain ⟨a,as',I1,I2,rfl,_,h1,h2⟩:=ht
   simp only [VRr] at hv
   obtain ⟨v1,v2,S1,S2,rfl,hS,g1,g2⟩:=hv
   obtain ⟨rfl,rfl⟩:=List.append_eq_nil_iff.1 hS.symm
   simp only [drr,VRr]
   exact ⟨v1,v2,[],[],rfl,rfl,TRl_lend H t h1 g1,TRr_lend H ts h2 g2⟩
end
end
def Lent (h:Heap) (a t:AV):Prop:=bw a h=some t∨∃ t' I,TR h t' a I∧dr t'=t
def LentL (h:Heap):List AV→List AV→Prop
 | [],[]=>True
 | a::as,t::ts=>Lent h a t∧LentL h as ts
 | _,_=>False
theorem LentL_sound {base:Nat} {w0 w:World} {L:Nat→Option Loc} {N:Nat} {F:Nat→List Nat} {E:List Nat} {h:Heap} (H:HRel base w0 w L N F E h) :
   ∀ {as ts:List AV} {vs:List Value},LentL h as ts→VRl w L N as vs []→VRl w Lo 0 ts vs []
 | [],[],vs,_,hv=>by simpa only [VRl] using hv
 | a::as,t::ts,vs,hl,hv=>by
   obtain ⟨v,vs',rfl,g1,g2⟩:=VRl_nil_cons.1 hv
   refine VRl_nil_cons.2 ⟨v,vs',rfl,?_,LentL_sound H hl.2 g2⟩
   rcases hl.1 with hb | ⟨t',I,ht,rfl⟩
   · exact bw_sound H a g1 hb
   · exact TR_lend H t' ht g1
 | [],_::_,_,hl,_=>hl.elim
 | _::_,[],_,hl,_=>hl.elim
section
variable {P:Program}
theorem acallE_deep {f:FuncId} {as as':List AV} {h:Heap} {n:Nat} {Q:AV→Prop} {K:AV→Heap→Nat→Prop} (hh:Holds P f as' Q) (hb:LentL h as as')
   (hK:∀ r a h' n' I,Q r→TR h' r a I→I.Nodup→(∀ id∈I,n≤id∧id<n')→n≤n'→(∀ id,id<n→h' id=h id)→K a h' n'):ACall P f as h n fun r h' n'=>hext h h'∧K r h' n':=by
 refine ⟨hh.1,fun base w0 w L F vs H hv => ?_⟩
 refine (hh.2 w vs (LentL_sound H hb hv)).mono ?_
 rintro e w' ⟨v,r,S,rfl,hq,hcl,hbel,hr,hnd,hS⟩
 obtain ⟨L',F',g1,g2,g3⟩:=H.takeD hbel hcl hr hnd hS
 have hold:∀ id,id<n→addB h n (dS r n).2 id=h id:=fun id hid=>by unfold addB; rw [if_neg (by omega)]
 refine ⟨v,_,L',_,F',_,rfl,g1,g3,g2,fun id B hB => ?_,hK r _ _ _ (List.range' n (dS r n).2.length) hq (TR_dS r n hcl ?_) List.nodup_range' (fun id hid=>by simpa using hid) (by omega) hold⟩
 · have hlt:id<n:=by
     cases hl:L id with
     | none=>rw [H.mod id hl] at hB; cases hB
     | some l=>exact H.lt id l hl
   rw [hold id hlt]; exact hB
 · intro i B hB
   unfold addB
   rw [if_pos (by omega),Nat.add_sub_cancel_left,hB]
def Marks (P:Program) (f:FuncId) (t:AV) (k:Int) (t':AV) (k':Int):Prop:=
 ∀ (h:Heap) (n:Nat) (a:AV) (I:List Nat) (K:AV→Heap→Nat→Prop),TR h t a I→I.Nodup→(∀ id∈I,id<n) →
   (∀ h' n',n≤n'→(∀ id,id<n→id∉I→h' id=h id)→TR h' t' a I→K (i64 k') h' n')→ACall P f [a,i64 k] h n K
end
open Go Go.RowKit
abbrev Tree:=AV×AV×List Nat
def Live (h:Heap) (n:Nat):List Tree→Prop
 | []=>True
 | x::T=>TR h x.1 x.2.1 x.2.2∧x.2.2.Nodup∧(∀ id∈x.2.2,id<n)∧(∀ y∈T,∀ id∈x.2.2,id∉y.2.2)∧Live h n T
section
variable {h h':Heap} {n n':Nat}
theorem Live.ids:∀ {T:List Tree},Live h n T→∀ x∈T,TR h x.1 x.2.1 x.2.2∧x.2.2.Nodup∧∀ id∈x.2.2,id<n
 | y::T,hL,x,hx=>by
   obtain ⟨h1,h2,h3,_,h5⟩:=hL
   rcases List.mem_cons.1 hx with rfl | hx
   · exact ⟨h1,h2,h3⟩
   · exact Live.ids h5 x hx
theorem Live.up:∀ {T:List Tree},Live h n T→n≤n'→(∀ id,id<n→h' id=h id)→Live h' n' T
 | [],_,_,_=>trivial
 | x::T,⟨h1,h2,h3,h4,h5⟩,hn,hh=>⟨TR_frame x.1 (fun id hi=>hh id (h3 id hi)) h1,h2,fun id hi=>Nat.lt_of_lt_of_le (h3 id hi) hn,h4,Live.up h5 hn hh⟩
theorem Live.turn {t t' a:AV} {I:List Nat} {T2:List Tree} : ∀ {T1:List Tree},Live h n (T1++(t,a,I)::T2)→n≤n'→(∀ id,id<n→id∉I→h' id=h id)→TR h' t' a I→Live h' n' (T1++(t',a,I)::T2)
 | [],⟨h1,h2,h3,h4,h5⟩,hn,hh,ht=>by
   refine ⟨ht,h2,fun id hi=>Nat.lt_of_lt_of_le (h3 id hi) hn,h4,?_⟩
   have:∀ (T:List Tree),(∀ y∈T,∀ id∈I,id∉y.2.2)→Live h n T→Live h' n' T:=by
     intro T
     induction T with
     | nil=>intros; trivial
     | cons y T ih=>
       rintro hd ⟨g1,g2,g3,g4,g5⟩
       exact ⟨TR_frame y.1 (fun id hi=>hh id (g3 id hi) fun hI=>hd y (by simp) id hI hi) g1,g2,fun id hi=>Nat.lt_of_lt_of_le (g3 id hi) hn,g4,ih (fun z hz=>hd z (by simp [hz])) g5⟩
   exact this T2 h4 h5
 | x::T1,⟨h1,h2,h3,h4,h5⟩,hn,hh,ht=>by
   have hx:∀ id∈x.2.2,id∉I:=h4 (t,a,I) (by simp)
   refine ⟨TR_frame x.1 (fun id hi=>hh id (h3 id hi) (hx id hi)) h1,h2,fun id hi=>Nat.lt_of_lt_of_le (h3 id hi) hn,?_,Live.turn h5 hn hh ht⟩
   intro y hy
   rcases List.mem_append.1 hy with hy | hy
   · exact h4 y (by simp [hy])
   · rcases List.mem_cons.1 hy with rfl | hy
     · exact hx
     · exact h4 y (by simp [hy])
def LentT (T:List Tree) (a t:AV):Prop:=(∀ h,bw a h=some t)∨∃ x∈T,x.2.1=a∧dr x.1=t
def LentTs (T:List Tree):List AV→List AV→Prop
 | [],[]=>True
 | a::as,t::ts=>LentT T a t∧LentTs T as ts
 | _,_=>False
theorem LentTs.ok {T:List Tree} (hL:Live h n T):∀ {as ts:List AV},LentTs T as ts→LentL h as ts
 | [],[],_=>trivial
 | a::as,t::ts,⟨h1,h2⟩=>by
   refine ⟨?_,LentTs.ok hL h2⟩
   rcases h1 with h1 | ⟨x,hx,rfl,rfl⟩
   · exact .inl (h1 h)
   · exact .inr ⟨x.1,x.2.2,(hL.ids x hx).1,rfl⟩
 | [],_::_,hl=>hl.elim
 | _::_,[],hl=>hl.elim
variable {P:Program} {f:FuncId} {as as':List AV} {T:List Tree} {K:AV→Heap→Nat→Prop}
theorem scal_dS {c:AV} {n:Nat} (hc:scal c=true):dS c n=(c,[]):=by
 unfold scal at hc
 split at hc
 · rfl
 · rfl
 · rfl
 · simp [dS,dSl]
 · cases hc
theorem addB_nil (h:Heap) (n:Nat):addB h n []=h:=by funext id; unfold addB; split <;> simp
theorem acallE_scal {c:AV} (hh:Holds P f as' (fun r=>r=c)) (hc:scal c=true) (hb:LentL h as as') (hk:K c h n):ACall P f as h n fun r h' n'=>hext h h'∧K r h' n':=by
 refine ⟨hh.1,fun base w0 w L F vs H hv => ?_⟩
 refine (hh.2 w vs (LentL_sound H hb hv)).mono ?_
 rintro e w' ⟨v,r,S,rfl,rfl,hcl,hbel,hr,hnd,hS⟩
 obtain ⟨L',F',g1,g2,g3⟩:=H.takeD hbel hcl hr hnd hS
 rw [scal_dS hc] at g1 g2 g3
 simp only [addB_nil,List.length_nil,Nat.add_zero] at g1 g2 g3
 exact ⟨v,_,L',_,F',_,rfl,g1,g3,g2,hext.refl _,hk⟩
theorem live_scal {c:AV} (hh:Holds P f as' (fun r=>r=c)) (hL:Live h n T) (hc:scal c=true) (hb:LentTs T as as') (hk:K c h n):ACall P f as h n K:=
 ACall.mono (acallE_scal hh hc (hb.ok hL) hk) fun _ _ _ h=>h.2
theorem liveD_scal {c:AV} (hh:Holds P f as' (fun r=>r=c)) (hL:Live h n T) (hc:scal c=true) (hb:LentTs T as as') (hk:K c h n):ACall P f as h n (hK h K):=acallE_scal hh hc (hb.ok hL) hk
theorem liveE_tree {t:AV} (hh:Holds P f as' (fun r=>r=t)) (hL:Live h n T) (hb:LentTs T as as')
   (hk:∀ a h' n' I,Live h' n' ((t,a,I)::T)→n≤n'→(∀ id,id<n→h' id=h id)→TR h' t a I→K a h' n'):ACall P f as h n fun r h' n'=>hext h h'∧K r h' n':=
 acallE_deep hh (hb.ok hL) fun r a h' n' I hr h1 h2 h3 h4 h5=>by
   subst hr
   refine hk a h' n' I ⟨h1,h2,fun id hi=>(h3 id hi).2,?_,hL.up h4 h5⟩ h4 h5 h1
   intro y hy id hi hi'
   have:=(hL.ids y hy).2.2 id hi'
   have:=(h3 id hi).1
   omega
theorem live_mark {t t' a:AV} {k k':Int} {I:List Nat} {T1 T2:List Tree} (hm:Marks P f t k t' k') (hL:Live h n (T1++(t,a,I)::T2))
   (hk:∀ h' n',Live h' n' (T1++(t',a,I)::T2)→n≤n'→(∀ id,id<n→id∉I→h' id=h id)→K (i64 k') h' n'):ACall P f [a,i64 k] h n K:=by
 obtain ⟨h1,h2,h3⟩:=hL.ids (t,a,I) (by simp)
 exact hm h n a I K h1 h2 h3 fun h' n' hn hh ht=>hk h' n' (hL.turn hn hh ht) hn hh
end
open Go Go.RowKit
def mkL {α:Type} (m:α→Int→α) (c:α→Nat):List α→Int→List α
 | [],_=>[]
 | x::l,k=>m x k::mkL m c l (k+c x)
def cL {α:Type} (c:α→Nat):List α→Nat
 | []=>0
 | x::l=>c x+cL c l
theorem cL_one {α:Type} : ∀ l:List α,cL (fun _=>1) l=l.length
 | []=>rfl
 | x::l=>by simp [cL,cL_one l]; omega
section
variable {h:Heap}
theorem TRr_mid {A B as:List (List AV)} {r:List AV} {I:List Nat} (ht:TRr h (A++r::B) as I) :
   ∃ a I1 I2 I3,as[A.length]? = some a∧I=I1++(I2++I3)∧TRl h r a I2 ∧
     ∀ (h':Heap) r' a',(∀ id∈I1++I3,h' id=h id)→TRl h' r' a' I2→TRr h' (A++r'::B) (as.set A.length a') I:=by
 obtain ⟨a,I1,I2,I3,g1,g2,g3,g4⟩:=TRr_split (i:=A.length) (t:=r) ht (by simp)
 exact ⟨a,I1,I2,I3,g1,g2,g3,fun h' r' a' hf hr=>by have:=g4 h' r' a' hf hr; simpa using this⟩
theorem TRl_int {k:IntKind} {n:Int} {ts as:List AV} {I:List Nat} : TRl h (.int k n::ts) as I↔∃ as',as = .int k n::as'∧TRl h ts as' I:=by
 simp only [TRl,TR]
 constructor
 · rintro ⟨a,as',I1,I2,rfl,rfl,⟨rfl,rfl⟩,h2⟩; exact ⟨as',rfl,h2⟩
 · rintro ⟨as',rfl,h2⟩; exact ⟨_,as',[],I,rfl,rfl,⟨rfl,rfl⟩,h2⟩
theorem TRl_nil {as:List AV} {I:List Nat} : TRl h [] as I↔as=[]∧I=[]:=by simp only [TRl]
theorem TRl_us {sz:Nat} {rows:List (List AV)} {ts as:List AV} {I:List Nat} (hh:TRl h (.us sz rows::ts) as I):∃ id len as' I1 I2,as = .ref id 0 len::as'∧I=I1++I2∧len=rows.length∧TR h (.us sz rows) (.ref id 0 len) I1∧TRl h ts as' I2:=by
 simp only [TRl] at hh
 obtain ⟨a,as',I1,I2,rfl,rfl,h1,h2⟩:=hh
 have h1':=h1
 simp only [TR] at h1
 obtain ⟨id,rows',I',rfl,_⟩:=h1
 exact ⟨id,_,as',I1,I2,rfl,rfl,rfl,h1',h2⟩
theorem TRl_cons {t a:AV} {ts as:List AV} {I1 I2:List Nat} (h1:TR h t a I1) (h2:TRl h ts as I2):TRl h (t::ts) (a::as) (I1++I2):=by
 simp only [TRl]; exact ⟨_,as,I1,I2,rfl,rfl,h1,h2⟩
theorem TR_us {sz:Nat} {rows:List (List AV)} {a:AV} {I:List Nat} (ht:TR h (.us sz rows) a I):∃ id rows' I',a = .ref id 0 rows.length∧I=id::I'∧h id=some ⟨true,sz,rows'⟩∧TRr h rows rows' I':=by
 simpa only [TR] using ht
end
theorem TR_some {h:Heap} {sz id off len:Nat} {rows:List (List AV)} {I:List Nat} (ht:TR h (.us sz rows) (.ref id off len) I):(h id).isSome=true:=by
 obtain ⟨id',rows',I',q1,rfl,q2,q3⟩:=TR_us ht
 simp only [AV.ref.injEq] at q1
 obtain ⟨rfl,_,_⟩:=q1
 rw [q2]; rfl
def MJ {α:Type} (m:α→Int→α) (c:α→Nat) (rU:α→List AV) (sz:Nat) (h0:Heap) (n0:Nat) (id:Nat) (I:List Nat) (l:List α) (k:Int) (i:Nat) (s1:AV) (h:Heap) (n:Nat):Prop:=
 ∃ (A rest:List α) (ki:Int),A.length=i∧A.length+rest.length=l.length∧mkL m c l k=A++mkL m c rest ki∧k≤ki∧ki+cL c rest=k+cL c l∧s1=i64 ki∧n0≤n∧(∀ j,j<n0→j∉I→h j=h0 j) ∧
   TR h (.us sz ((A++rest).map rU)) (.ref id 0 l.length) I
section
variable {α:Type} {m:α→Int→α} {c:α→Nat} {rU:α→List AV} {sz:Nat} {h0 h:Heap} {n0 n id:Nat} {I:List Nat} {l:List α} {k:Int} {i:Nat} {s1:AV}
theorem MJ.start (ht:TR h (.us sz (l.map rU)) (.ref id 0 l.length) I):MJ m c rU sz h n id I l k 0 (i64 k) h n:=
 ⟨[],l,k,rfl,by simp,rfl,Int.le_refl _,rfl,rfl,Nat.le_refl _,fun _ _ _=>rfl,by simpa using ht⟩
theorem MJ.fin (hJ:MJ m c rU sz h0 n0 id I l k l.length s1 h n):s1=i64 (k+cL c l)∧n0≤n∧(∀ j,j<n0→j∉I→h j=h0 j)∧TR h (.us sz ((mkL m c l k).map rU)) (.ref id 0 l.length) I:=by
 obtain ⟨A,rest,ki,e1,e2,e3,e4,e5,rfl,e6,e7,e8⟩:=hJ
 have hr:rest=[]:=List.eq_nil_of_length_eq_zero (by omega)
 subst hr
 simp only [mkL,List.append_nil] at e3 e8
 simp only [cL] at e5
 refine ⟨by rw [←e5]; simp,e6,e7,by rw [e3]; exact e8⟩
theorem MJ.step (hI:I.Nodup) (hn0:∀ j∈I,j<n0) (hi:i<l.length) (hJ:MJ m c rU sz h0 n0 id I l k i s1 h n) :
   ∃ (x:α) (ki:Int) (rows:List (List AV)) (cells:List AV) (I2:List Nat),s1=i64 ki∧k≤ki∧ki+c x≤k+cL c l∧h id=some ⟨true,sz,rows⟩∧i<rows.length∧(∀ hl:i<rows.length,rows[i]'hl=cells)∧TRl h (rU x) cells I2∧I2.Nodup∧id∉I2 ∧
     id<n∧(∀ j∈I2,j<n)∧n0≤n∧∀ (h':Heap) (n':Nat) (cells':List AV) (s':AV),n≤n'→(∀ j,j<n→j≠id→j∉I2→h' j=h j)→h' id=some ⟨true,sz,rows.set i cells'⟩→TRl h' (rU (m x ki)) cells' I2→s'=i64 (ki+c x) →
       MJ m c rU sz h0 n0 id I l k (i+1) s' h' n':=by
 obtain ⟨A,rest,ki,rfl,e2,e3,e4,e5,rfl,e6,e7,e8⟩:=hJ
 cases rest with
 | nil=>simp at e2; omega
 | cons x rest=>
   obtain ⟨id',rows,I',q1,rfl,q2,q3⟩:=TR_us e8
   simp only [AV.ref.injEq] at q1
   obtain ⟨rfl,_,_⟩:=q1
   rw [List.map_append,List.map_cons] at q3
   obtain ⟨a,I1,I2,I3,g1,rfl,g3,g4⟩:=TRr_mid q3
   rw [List.length_map] at g1 g4
   simp only [cL] at e5
   simp only [mkL] at e3
   have hlen:A.length<rows.length:=(List.getElem?_eq_some_iff.1 g1).1
   simp only [List.nodup_cons,List.mem_append,List.nodup_append] at hI
   obtain ⟨d1,d2,⟨d3,d4,d5⟩,d6⟩:=hI
   refine ⟨x,ki,rows,a,I2,rfl,e4,by omega,q2,hlen,fun hl=>by rw [List.getElem?_eq_getElem hl] at g1; exact Option.some.inj g1,g3,d3,fun hm=>d1 (.inr (.inl hm)),Nat.lt_of_lt_of_le (hn0 _ (by simp)) e6,fun j hj=>Nat.lt_of_lt_of_le (hn0 j (by simp [hj])) e6,e6,?_⟩
   · intro h' n' cells' s' hn hf hid hc hs
     refine ⟨A++[m x ki],rest,ki+c x,by simp,by simp at e2 ⊢; omega,by rw [e3]; simp,by omega,by omega,hs,Nat.le_trans e6 hn,?_,?_⟩
     · intro j hj hjI
       simp only [List.mem_cons,List.mem_append,not_or] at hjI
       rw [hf j (by omega) hjI.1 hjI.2.2.1]
       exact e7 j hj (by simp [hjI])
     · simp only [TR]
       refine ⟨id,rows.set A.length cells',I1++(I2++I3),by simp at e2 ⊢; omega,rfl,hid,?_⟩
       rw [List.append_assoc,List.map_append,List.singleton_append,List.map_cons]
       refine g4 h' _ cells' (fun j hj => ?_) hc
       rw [List.mem_append] at hj
       refine hf j ?_ ?_ ?_
       · have:=hn0 j (by rcases hj with hj | hj <;> simp [hj]); omega
       · rintro rfl; exact d1 (by rcases hj with hj | hj <;> simp [hj])
       · intro hm
         rcases hj with hj | hj
         · exact d6 j hj j (by simp [hm]) rfl
         · exact d5 j hm j hj rfl
end
theorem Live.frame {h h':Heap} {n n':Nat} : ∀ {T:List Tree},Live h n T→n≤n'→(∀ x∈T,∀ j∈x.2.2,h' j=h j)→Live h' n' T
 | [],_,_,_=>trivial
 | x::T,⟨h1,h2,h3,h4,h5⟩,hn,hh=>⟨TR_frame x.1 (fun id hi=>hh x (by simp) id hi) h1,h2,fun id hi=>Nat.lt_of_lt_of_le (h3 id hi) hn,h4,Live.frame h5 hn fun y hy=>hh y (by simp [hy])⟩
structure Kids (h:Heap) (n:Nat) (T:List Tree) (I:List Nat):Prop where
 live:Live h n T
 sub:∀ x∈T,∀ j∈x.2.2,j∈I
theorem Kids.nil {h:Heap} {n:Nat} {I:List Nat} : Kids h n [] I:=⟨trivial,by simp⟩
theorem Kids.cons {h:Heap} {n:Nat} {T:List Tree} {t a:AV} {J I:List Nat} (ht:TR h t a J) (hd:(J++I).Nodup) (hn:∀ j∈J++I,j<n) (hk:I.Nodup→(∀ j∈I,j<n)→Kids h n T I):Kids h n ((t,a,J)::T) (J++I):=by
 obtain ⟨d1,d2,d3⟩:=List.nodup_append.1 hd
 have hk:=hk d2 (fun j hj=>hn j (by simp [hj]))
 refine ⟨⟨ht,d1,fun j hj=>hn j (by simp [hj]),fun y hy j hj hj'=>d3 j hj j (hk.sub y hy j hj') rfl,hk.live⟩,?_⟩
 intro y hy j hj
 rcases List.mem_cons.1 hy with rfl | hy
 · exact List.mem_append_left _ hj
 · exact List.mem_append_right _ (hk.sub y hy j hj)
structure RS (sz:Nat) (id:Nat) (I:List Nat) (h1:Heap) (n1:Nat) (rows:List (List AV)) (i:Nat) (cells:List AV) (T:List Tree) (h:Heap) (n:Nat):Prop where
 live:Live h n T
 sub:∀ x∈T,∀ j∈x.2.2,j∈I
 out:id∉I
 lt:id<n1
 le:n1≤n
 e:h id=some ⟨true,sz,rows.set i cells⟩
 old:∀ j,j<n1→j≠id→j∉I→h j=h1 j
section
variable {sz id:Nat} {I:List Nat} {h1 h:Heap} {n1 n:Nat} {rows:List (List AV)} {i:Nat} {cells cells':List AV} {T:List Tree}
theorem RS.start (hk:Kids h1 n1 T I) (ho:id∉I) (hl:id<n1) (hi:i<rows.length) (e:h1 id=some ⟨true,sz,rows⟩) (hr:∀ hl:i<rows.length,rows[i]'hl=cells):RS sz id I h1 n1 rows i cells T h1 n1:=
 ⟨hk.live,hk.sub,ho,hl,Nat.le_refl _,by rw [e,←hr hi,List.set_getElem_self],fun _ _ _ _=>rfl⟩
theorem RS.store (S:RS sz id I h1 n1 rows i cells T h n):RS sz id I h1 n1 rows i cells' T (upd h id (some ⟨true,sz,rows.set i cells'⟩)) n:=
 ⟨S.live.frame (Nat.le_refl _) fun x hx j hj=>by rw [upd_other]; rintro rfl; exact S.out (S.sub x hx j hj),S.sub,S.out,S.lt,S.le,upd_same _ _ _,fun j h1 h2 h3=>by rw [upd_other _ _ _ _ h2]; exact S.old j h1 h2 h3⟩
theorem RS.mark {P:Program} {f:FuncId} {K:AV→Heap→Nat→Prop} {t t' a:AV} {k k':Int} {J:List Nat} {T1 T2:List Tree} (hm:Marks P f t k t' k') (S:RS sz id I h1 n1 rows i cells (T1++(t,a,J)::T2) h n)
   (hk:∀ h' n',RS sz id I h1 n1 rows i cells (T1++(t',a,J)::T2) h' n'→K (i64 k') h' n'):ACall P f [a,i64 k] h n K:=by
 refine live_mark hm S.live fun h' n' hL hn hh=>hk h' n' ⟨hL,?_,S.out,S.lt,Nat.le_trans S.le hn,?_,?_⟩
 · intro x hx j hj
   simp only [List.mem_append,List.mem_cons] at hx
   rcases hx with hx | rfl | hx
   · exact S.sub x (by simp [hx]) j hj
   · exact S.sub (t,a,J) (by simp) j hj
   · exact S.sub x (by simp [hx]) j hj
 · rw [hh id (Nat.lt_of_lt_of_le S.lt S.le) fun hi=>S.out (S.sub (t,a,J) (by simp) id hi)]; exact S.e
 · intro j h1 h2 h3
   rw [hh j (Nat.lt_of_lt_of_le h1 S.le) fun hi=>h3 (S.sub (t,a,J) (by simp) j hi)]; exact S.old j h1 h2 h3
end
theorem MJ.step2 {α:Type} {m:α→Int→α} {c:α→Nat} {rU:α→List AV} {sz:Nat} {h0 h:Heap} {n0 n id:Nat} {I:List Nat} {l:List α} {k:Int} {i:Nat} {s1:AV} (hI:I.Nodup) (hn0:∀ j∈I,j<n0) (hi:i<l.length) (hJ:MJ m c rU sz h0 n0 id I l k i s1 h n) :
   ∃ (x:α) (ki:Int) (rows:List (List AV)) (cells:List AV) (I2:List Nat),s1=i64 ki∧k≤ki∧ki+c x≤k+cL c l∧i<rows.length∧TRl h (rU x) cells I2∧I2.Nodup∧(∀ j∈I2,j<n) ∧
     (∀ T,Kids h n T I2→RS sz id I2 h n rows i cells T h n)∧∀ (h':Heap) (n':Nat) (cells':List AV) (s':AV) (T:List Tree),RS sz id I2 h n rows i cells' T h' n'→TRl h' (rU (m x ki)) cells' I2→s'=i64 (ki+c x) →
       MJ m c rU sz h0 n0 id I l k (i+1) s' h' n':=by
 obtain ⟨x,ki,rows,cells,I2,q1,q2,q3,q4,q5,q6,q7,q8,q9,q10,q11,q12,q13⟩:=hJ.step hI hn0 hi
 exact ⟨x,ki,rows,cells,I2,q1,q2,q3,q5,q7,q8,q11,fun T hk=>RS.start hk q9 q10 q5 q4 q6,fun h' n' cells' s' T S hc hs=>q13 h' n' cells' s' S.le S.old S.e hc hs⟩
def HJ {α:Type} (m:α→Int→α) (c:α→Nat) (M:List α) (l:List α) (k:Int) (i:Nat) (s1:AV):Prop:=
 ∃ (rest:List α) (ki:Int),M.drop i=mkL m c rest ki∧k≤ki∧ki+cL c rest=k+cL c l∧s1=i64 ki
theorem HJ.start {α:Type} {m:α→Int→α} {c:α→Nat} {l:List α} {k:Int} : HJ m c (mkL m c l k) l k 0 (i64 k):=⟨l,k,rfl,Int.le_refl _,rfl,rfl⟩
theorem HJ.fin {α:Type} {m:α→Int→α} {c:α→Nat} {M l:List α} {k:Int} {i:Nat} {s1:AV} (hi:M.length≤i) (hJ:HJ m c M l k i s1):s1=i64 (k+cL c l):=by
 obtain ⟨rest,ki,e1,e2,e3,rfl⟩:=hJ
 rw [List.drop_eq_nil_of_le hi] at e1
 cases rest with
 | nil=>simp only [cL] at e3; rw [←e3]; simp
 | cons x rest=>simp [mkL] at e1
theorem HJ.step {α:Type} {m:α→Int→α} {c:α→Nat} {M l:List α} {k:Int} {i:Nat} {s1:AV} (hi:i<M.length) (hJ:HJ m c M l k i s1) :
   ∃ x ki,s1=i64 ki∧k≤ki∧ki+c x≤k+cL c l∧(∀ hl:i<M.length,M[i]'hl=m x ki)∧∀ s',s'=i64 (ki+c x)→HJ m c M l k (i+1) s':=by
 obtain ⟨rest,ki,e1,e2,e3,rfl⟩:=hJ
 rw [List.drop_eq_getElem_cons hi] at e1
 cases rest with
 | nil=>simp [mkL] at e1; omega
 | cons x rest=>
   simp only [mkL,List.cons.injEq] at e1
   simp only [cL] at e3
   exact ⟨x,ki,rfl,e2,by omega,fun _=>e1.1,fun s' hs=>⟨rest,ki+c x,e1.2,by omega,by omega,hs⟩⟩
section
variable {P:Program}
theorem acall_len {f:FuncId} {fn:Func} {id off len:Nat} {as:List AV} {h:Heap} {n:Nat} {K:AV→Heap→Nat→Prop} (hf:P.funcs[f]? = some fn) (hb:fn.body.isSome=true) (hn:(fn.name == "runtime.NumGoroutine")=false)
   (hB:h id≠Option.none) (hA:len≤LIM→ACall P f (.ref id off len::as) h n K):ACall P f (.ref id off len::as) h n K:=by
 refine ⟨by simp [callable,hf,hb,hn],fun base w0 w L F vs H hv => ?_⟩
 have hlen:len≤LIM:=by
   obtain ⟨v,vs',_,h1,_⟩:=VRl_nil_cons.1 hv
   simp only [VR] at h1
   cases hl:L id with
   | none=>exact absurd (H.mod id hl) hB
   | some l=>exact (h1.1.2.2 l hl).1
 exact (hA hlen).2 base w0 w L F vs H hv
end
open Go Go.RowKit
def Bx (h:Heap) (n:Nat) (T:List Tree):List (Nat×Blk)→Prop
 | []=>True
 | p::B=>(h p.1=some p.2∧p.1<n∧(∀ x∈T,p.1∉x.2.2)∧∀ q∈B,q.1<p.1)∧Bx h n T B
def bxE (h:Heap):List (Nat×Blk)→Prop
 | []=>True
 | p::B=>h p.1=some p.2∧bxE h B
def bxN (n:Nat):List (Nat×Blk)→Prop
 | []=>True
 | p::B=>¬p.1=n∧bxN n B
structure LS (h:Heap) (n:Nat) (B:List (Nat×Blk)) (T:List Tree):Prop where
 live:Live h n T
 bx:Bx h n T B
theorem Bx.map {h h':Heap} {n n':Nat} {T T':List Tree} : ∀ {B:List (Nat×Blk)},Bx h n T B→(∀ id v,h id=some v→id<n→(∀ x∈T,id∉x.2.2)→h' id=some v∧id<n'∧∀ x∈T',id∉x.2.2)→Bx h' n' T' B
 | [],_,_=>trivial
 | p::B,⟨⟨h1,h2,h3,h3'⟩,h4⟩,hm=>by
   obtain ⟨g1,g2,g3⟩:=hm p.1 p.2 h1 h2 h3
   exact ⟨⟨g1,g2,g3,h3'⟩,Bx.map h4 hm⟩
section
variable {h h':Heap} {n n':Nat} {B:List (Nat×Blk)} {T T1 T2:List Tree}
theorem LS.eqs (S:LS h n B T):bxE h B:=by
 have:=S.bx
 revert this
 induction B with
 | nil=>exact fun _=>trivial
 | cons p B ih=>exact fun hb=>⟨hb.1.1,ih ⟨S.live,hb.2⟩ hb.2⟩
theorem LS.nes (S:LS h n B T):bxN n B:=by
 have:=S.bx
 revert this
 induction B with
 | nil=>exact fun _=>trivial
 | cons p B ih=>exact fun hb=>⟨by have:=hb.1.2.1; omega,ih ⟨S.live,hb.2⟩ hb.2⟩
theorem LS.start {h:Heap} {n:Nat} : LS h n [] []:=⟨trivial,trivial⟩
theorem LS.grow {t a:AV} {I:List Nat} (S:LS h n B T) (ht:TR h' t a I) (hd:I.Nodup) (hI:∀ id∈I,n≤id∧id<n') (hn:n≤n') (ho:∀ id,id<n→h' id=h id):LS h' n' B ((t,a,I)::T):=by
 refine ⟨⟨ht,hd,fun id hi=>(hI id hi).2,?_,S.live.up hn ho⟩,S.bx.map fun id v h1 h2 h3=>⟨(ho id h2).trans h1,by omega,?_⟩⟩
 · intro y hy id hi hi'
   have:=(S.live.ids y hy).2.2 id hi'
   have:=(hI id hi).1
   omega
 · intro x hx
   rcases List.mem_cons.1 hx with rfl | hx
   · intro hi; have:=(hI id hi).1; omega
   · exact h3 x hx
variable {P:Program} {f:FuncId} {as as':List AV} {K:AV→Heap→Nat→Prop}
theorem ls_scal {c:AV} (hh:Holds P f as' (fun r=>r=c)) (S:LS h n B T) (hc:scal c=true) (hb:LentTs T as as') (hk:K c h n):ACall P f as h n K:=live_scal hh S.live hc hb hk
theorem lsD_scal {c:AV} (hh:Holds P f as' (fun r=>r=c)) (S:LS h n B T) (hc:scal c=true) (hb:LentTs T as as') (hk:K c h n):ACall P f as h n (hK h K):=liveD_scal hh S.live hc hb hk
theorem lsE_us {sz len:Nat} {rows:List (List AV)} (hh:Holds P f as' (fun r=>r = .us sz rows)) (S:LS h n B T) (hlen:rows.length=len) (hb:LentTs T as as')
   (hk:∀ d h' n' J,LS h' n' B ((.us sz rows,.ref d 0 len,J)::T)→K (.ref d 0 len) h' n'):ACall P f as h n fun r h' n'=>hext h h'∧K r h' n':=
 acallE_deep hh (hb.ok S.live) fun r a h' n' I hr h1 h2 h3 h4 h5=>by
   subst hr; try subst hlen
   have h1':=h1
   simp only [TR] at h1
   obtain ⟨d,rows',I',rfl,_⟩:=h1
   exact hk d h' n' I (S.grow h1' h2 h3 h4 h5)
theorem ls_us {sz len:Nat} {rows:List (List AV)} (hh:Holds P f as' (fun r=>r = .us sz rows)) (S:LS h n B T) (hlen:rows.length=len) (hb:LentTs T as as')
   (hk:∀ d h' n' J,LS h' n' B ((.us sz rows,.ref d 0 len,J)::T)→K (.ref d 0 len) h' n'):ACall P f as h n K:=ACall.mono (lsE_us hh S hlen hb hk) fun _ _ _ h=>h.2
theorem lsD_us {sz len:Nat} {rows:List (List AV)} (hh:Holds P f as' (fun r=>r = .us sz rows)) (S:LS h n B T) (hlen:rows.length=len) (hb:LentTs T as as')
   (hk:∀ d h' n' J,LS h' n' B ((.us sz rows,.ref d 0 len,J)::T)→K (.ref d 0 len) h' n'):ACall P f as h n (hK h K):=lsE_us hh S hlen hb hk
theorem TR_tup2 {h:Heap} {t c a:AV} {I:List Nat} (hc:scal c=true) (ht:TR h (.tup [t,c]) a I):∃ b,a = .tup [b,c]∧TR h t b I:=by
 simp only [TR,TRl] at ht
 obtain ⟨cs',rfl,a1,as1,J1,J2,rfl,rfl,g1,a2,as2,J3,J4,rfl,rfl,g2,rfl,rfl⟩:=ht
 have:a2=c∧J3=[]:=by
   unfold scal at hc
   split at hc
   · simpa only [TR] using g2
   · simpa only [TR] using g2
   · simpa only [TR] using g2
   · simp only [TR,TRl] at g2
     obtain ⟨cs',rfl,a1,as1,J1,J2,rfl,rfl,⟨rfl,rfl⟩,a2,as2,J3,J4,rfl,rfl,⟨rfl,rfl⟩,rfl,rfl⟩:=g2
     exact ⟨rfl,rfl⟩
   · cases hc
 obtain ⟨rfl,rfl⟩:=this
 exact ⟨a1,rfl,by simpa using g1⟩
theorem lsE_us2 {sz len:Nat} {rows:List (List AV)} {c:AV} (hh:Holds P f as' (fun r=>r = .tup [.us sz rows,c])) (S:LS h n B T) (hc:scal c=true) (hlen:rows.length=len) (hb:LentTs T as as')
   (hk:∀ d h' n' J,LS h' n' B ((.us sz rows,.ref d 0 len,J)::T)→K (.tup [.ref d 0 len,c]) h' n'):ACall P f as h n fun r h' n'=>hext h h'∧K r h' n':=
 acallE_deep hh (hb.ok S.live) fun r a h' n' I hr h1 h2 h3 h4 h5=>by
   subst hr; try subst hlen
   obtain ⟨b,rfl,g1⟩:=TR_tup2 hc h1
   have h1':=g1
   simp only [TR] at g1
   obtain ⟨d,rows',I',rfl,_⟩:=g1
   exact hk d h' n' I (S.grow h1' h2 h3 h4 h5)
theorem ls_us2 {sz len:Nat} {rows:List (List AV)} {c:AV} (hh:Holds P f as' (fun r=>r = .tup [.us sz rows,c])) (S:LS h n B T) (hc:scal c=true) (hlen:rows.length=len) (hb:LentTs T as as')
   (hk:∀ d h' n' J,LS h' n' B ((.us sz rows,.ref d 0 len,J)::T)→K (.tup [.ref d 0 len,c]) h' n'):ACall P f as h n K:=ACall.mono (lsE_us2 hh S hc hlen hb hk) fun _ _ _ h=>h.2
theorem lsD_us2 {sz len:Nat} {rows:List (List AV)} {c:AV} (hh:Holds P f as' (fun r=>r = .tup [.us sz rows,c])) (S:LS h n B T) (hc:scal c=true) (hlen:rows.length=len) (hb:LentTs T as as')
   (hk:∀ d h' n' J,LS h' n' B ((.us sz rows,.ref d 0 len,J)::T)→K (.tup [.ref d 0 len,c]) h' n'):ACall P f as h n (hK h K):=lsE_us2 hh S hc hlen hb hk
theorem ls_mark {t t' a:AV} {k k':Int} {I:List Nat} (hm:Marks P f t k t' k') (S:LS h n B (T1++(t,a,I)::T2))
   (hk:∀ h' n',LS h' n' B (T1++(t',a,I)::T2)→K (i64 k') h' n'):ACall P f [a,i64 k] h n K:=by
 refine live_mark hm S.live fun h' n' hL hn hh=>hk h' n' ⟨hL,S.bx.map fun id v h1 h2 h3=>⟨?_,by omega,?_⟩⟩
 · rw [hh id h2 (h3 (t,a,I) (by simp))]; exact h1
 · intro x hx
   simp only [List.mem_append,List.mem_cons] at hx
   rcases hx with hx | rfl | hx
   · exact h3 x (by simp [hx])
   · exact h3 (t,a,I) (by simp)
   · exact h3 x (by simp [hx])
end
end Go.Proofs.Ytoclolkigjbcgaa

namespace Go.Proofs.Ytoclolkigjbcgaa
set_option linter.all false
open Go Go.RowKit Go.Proofs
def mkIntS (l:List Int) (k:Int):List Int:=mkL (fun _ k=>k) (fun _=>1) l k
def cIntS (l:List Int):Nat:=cL (fun _=>1) l
theorem cIntS_len (l:List Int):cIntS l=l.length:=cL_one l
def mkrLin (x:DLin) (k:Int):DLin:=⟨k,mkIntS x.Coeffs (k+1)⟩
def crLin (x:DLin):Nat:=1+cIntS x.Coeffs
def mkLinS (l:List DLin) (k:Int):List DLin:=mkL mkrLin crLin l k
def cLinS (l:List DLin):Nat:=cL crLin l
def mkrFarkas (x:DFarkas) (k:Int):DFarkas:=⟨k,mkIntS x.Mult (k+1)⟩
def crFarkas (x:DFarkas):Nat:=1+cIntS x.Mult
def mkFarkasS (l:List DFarkas) (k:Int):List DFarkas:=mkL mkrFarkas crFarkas l k
def cFarkasS (l:List DFarkas):Nat:=cL crFarkas l
def mkrObligation (x:DObligation) (k:Int):DObligation:=⟨⟨k,mkLinS x.System.Rows (k+1)⟩,⟨k+1+cLinS x.System.Rows,mkIntS x.Target.Coeffs (k+1+cLinS x.System.Rows+1)⟩⟩
def crObligation (x:DObligation):Nat:=2+cLinS x.System.Rows+cIntS x.Target.Coeffs
def mkObligationS (l:List DObligation) (k:Int):List DObligation:=mkL mkrObligation crObligation l k
def cObligationS (l:List DObligation):Nat:=cL crObligation l
theorem cL_le {α:Type} {c w:α→Nat} (h:∀ x,c x≤8+8*w x):∀ l:List α,cL c l≤8*wL w l
 | []=>Nat.zero_le _
 | x::l=>by
   have h1:=h x
   have h2:=cL_le h l
   simp only [cL]
   unfold wL at h2 ⊢
   simp only [List.length_cons,List.map_cons,List.sum_cons]
   omega
theorem cw_IntS (l:List Int):cIntS l≤8*wIntS l:=by rw [cIntS_len]; unfold wIntS; omega
theorem cwr_Lin (x:DLin):crLin x≤8+8*wLin x:=by have:=cw_IntS x.Coeffs; unfold crLin wLin; omega
theorem cw_LinS (l:List DLin):cLinS l≤8*wLinS l:=cL_le cwr_Lin l
theorem cwr_Obligation (x:DObligation):crObligation x≤8+8*wObligation x:=by have:=cw_LinS x.System.Rows; have:=cw_IntS x.Target.Coeffs; unfold crObligation wObligation wSystem wLin; omega
theorem cw_ObligationS (l:List DObligation):cObligationS l≤8*wObligationS l:=cL_le cwr_Obligation l
end Go.Proofs.Ytoclolkigjbcgaa

namespace Go.Proofs.Ytoclolkigjbcgaa
set_option linter.all false
open Go Go.RowKit Go.Proofs
theorem setO_s {s:Env} {k:Nat} {v:AV} : setO s (some k) v k=v:=by simp
theorem setO_n {s:Env} {k j:Nat} {v:AV} (hj:¬j=k):setO s (some k) v j=s j:=by simp [hj]
theorem upd_s {α:Type} {f:Nat→α} {k:Nat} {v:α} : upd f k v k=v:=by simp
theorem upd_n {α:Type} {f:Nat→α} {k j:Nat} {v:α} (hj:¬j=k):upd f k v j=f j:=by simp [hj]
attribute [simp ↓ high] setO_s setO_n upd_s upd_n
def ldv1 (raw:Bool) (o:Option AV):Option AV:=if raw then o else o.map dr
@[simp ↓ high] theorem ldv1_t (o:Option AV):ldv1 true o=o:=by unfold ldv1; rw [if_pos (by simp)]
@[simp ↓ high] theorem ldv1_f (o:Option AV):ldv1 false o=o.map dr:=by unfold ldv1; rw [if_neg (by simp)]
def ldvG (raw b:Bool) (l:List AV):Option AV:=if b then some (.agg (if raw then l else drl l)) else Option.none
@[simp ↓ high] theorem ldvG_t (l:List AV):ldvG true true l=some (.agg l):=by unfold ldvG; rw [if_pos (by simp),if_pos (by simp)]
@[simp ↓ high] theorem ldv_1 (raw:Bool) (row:List AV) (c:Nat):ldv raw false row c 1=ldv1 raw (row[c]?):=by
 unfold ldv ldv1
 by_cases h:c<row.length
 · rw [if_pos (by omega),if_neg (by simp),if_pos rfl,List.getElem?_eq_getElem h]; cases raw <;> simp
 · rw [if_neg (by omega),List.getElem?_eq_none (by omega)]; cases raw <;> rfl
@[simp ↓ high] theorem ldv_G (raw:Bool) (row:List AV) (c sz:Nat):ldv raw true row c sz=ldvG raw (decide (c+sz≤row.length)) ((row.drop c).take sz):=by
 unfold ldv ldvG
 by_cases h:c+sz≤row.length
 · simp [h]
 · simp [h]
def cutK (P:Program) (ks:List Kt) (Q:Fin) (keep:List Nat) (J:Env→Prop) (s0:Env) (h0:Heap) (n0:Nat):Fin:=fun e s h n=>match e with
 | .normal=>(∀ j∈keep,s j=s0 j)∧J s∧h=h0∧n=n0
 | e=>kont P ks e s h n Q
section
variable {P:Program} {a b:AC} {ks:List Kt} {s:Env} {h:Heap} {n:Nat} {Q:Fin}
@[simp ↓] theorem cutK_normal {keep:List Nat} {J:Env→Prop} {s0 s':Env} {h0 h':Heap} {n0 n':Nat} : cutK P ks Q keep J s0 h0 n0 .normal s' h' n'=((∀ j∈keep,s' j=s0 j)∧J s'∧h'=h0∧n'=n0):=propext Iff.rfl
@[simp ↓] theorem cutK_ret {keep:List Nat} {J:Env→Prop} {s0 s':Env} {h0 h':Heap} {n0 n':Nat} : cutK P ks Q keep J s0 h0 n0 .ret s' h' n'=kont P ks .ret s' h' n' Q:=propext Iff.rfl
@[simp ↓] theorem cutK_exit {keep:List Nat} {J:Env→Prop} {s0 s':Env} {h0 h':Heap} {n0 n' i:Nat} : cutK P ks Q keep J s0 h0 n0 (.exit i) s' h' n'=kont P ks (.exit i) s' h' n' Q:=propext Iff.rfl
theorem rC_cut (keep:List Nat) (J:Env→Prop) (h1:rC P a [] s h n (cutK P (.seq b::ks) Q keep J s h n)) (h2:∀ s',(∀ j∈keep,s' j=s j)→J s'→rC P b ks s' h n Q):rC P (.seq a b) ks s h n Q:=by
 rw [rC_seq]
 unfold rC at h1 ⊢
 refine awp_mono h1 ?_
 intro e s' h' n' hq
 cases e
 · obtain ⟨g1,g2,rfl,rfl⟩:=hq
   exact h2 s' g1 g2
 · exact hq
 · exact hq
def cutH (P:Program) (ks:List Kt) (Q:Fin) (keep:List Nat) (J:Env→Heap→Nat→Prop) (s0:Env):Fin:=fun e s h n=>match e with
 | .normal=>(∀ j∈keep,s j=s0 j)∧J s h n
 | e=>kont P ks e s h n Q
@[simp ↓] theorem cutH_normal {keep:List Nat} {J:Env→Heap→Nat→Prop} {s0 s':Env} {h':Heap} {n':Nat} : cutH P ks Q keep J s0 .normal s' h' n'=((∀ j∈keep,s' j=s0 j)∧J s' h' n'):=propext Iff.rfl
@[simp ↓] theorem cutH_ret {keep:List Nat} {J:Env→Heap→Nat→Prop} {s0 s':Env} {h':Heap} {n':Nat} : cutH P ks Q keep J s0 .ret s' h' n'=kont P ks .ret s' h' n' Q:=propext Iff.rfl
@[simp ↓] theorem cutH_exit {keep:List Nat} {J:Env→Heap→Nat→Prop} {s0 s':Env} {h':Heap} {n' i:Nat} : cutH P ks Q keep J s0 (.exit i) s' h' n'=kont P ks (.exit i) s' h' n' Q:=propext Iff.rfl
theorem rC_cutH (keep:List Nat) (J:Env→Heap→Nat→Prop) (h1:rC P a [] s h n (cutH P (.seq b::ks) Q keep J s)) (h2:∀ s' h' n',(∀ j∈keep,s' j=s j)→J s' h' n'→rC P b ks s' h' n' Q):rC P (.seq a b) ks s h n Q:=by
 rw [rC_seq]
 unfold rC at h1 ⊢
 refine awp_mono h1 ?_
 intro e s' h' n' hq
 cases e
 · exact h2 s' h' n' hq.1 hq.2
 · exact hq
 · exact hq
theorem rC_pass {c:Nat} {e:AC} (hc:s c = .bool true) (h1:rC P b ks s h n Q):rC P (.seq (.cond (.t c) .skip e) b) ks s h n Q:=by
 rw [rC_seq,rC_cond]
 have:ev s (.t c) = .bool true:=hc
 rw [this]
 simpa using h1
theorem rC_stop {c id:Nat} (hc:s c = .bool false) (h1:kont P ks (.exit id) s h n Q):rC P (.seq (.cond (.t c) .skip (.exit id)) b) ks s h n Q:=by
 rw [rC_seq,rC_cond]
 have:ev s (.t c) = .bool false:=hc
 rw [this]
 simpa using h1
theorem rC_pass1 {c:Nat} {e:AC} {ks:List Kt} (hc:s c = .bool true) (h1:kont P ks .normal s h n Q):rC P (.cond (.t c) .skip e) ks s h n Q:=by
 rw [rC_cond]
 have:ev s (.t c) = .bool true:=hc
 rw [this]
 simpa using h1
theorem rC_stop1 {c id:Nat} {ks:List Kt} (hc:s c = .bool false) (h1:kont P ks (.exit id) s h n Q):rC P (.cond (.t c) .skip (.exit id)) ks s h n Q:=by
 rw [rC_cond]
 have:ev s (.t c) = .bool false:=hc
 rw [this]
 simpa using h1
theorem rC_blkI {id:Nat} (h1:rC P a (.blk id::ks) s h n Q):rC P (.blk id a) ks s h n Q:=by rw [rC_blk]; exact h1
theorem rC_seqI (h1:rC P a (.seq b::ks) s h n Q):rC P (.seq a b) ks s h n Q:=by rw [rC_seq]; exact h1
end
end Go.Proofs.Ytoclolkigjbcgaa
