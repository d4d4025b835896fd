/- Contracts: calls. -/
import Derived.Test.YtilcageplifbgaaGreatKHM1
import Derived.Test.YtilcageplifbgaaGreatKC1
namespace Go.Proofs.YtilcageplifbgaaGreat
set_option linter.all false
open Go Go.RowKit Go.Proofs
def a229:AFn:=
⟨78,[(.t 6)],(.seq
 (.reg [⟨some 3,(.boxv (.t 0)),no⟩,⟨some 4,(.boxv (.t 1)),no⟩,⟨some 6,(.mv (.k (.bool false))),no⟩]) (.seq
 (.reg [⟨some 12,(.ld true 2 (.t 3)),no⟩,⟨some 13,(.fld 1 (.t 4)),no⟩,⟨some 14,(.ld false 1 (.t 13)),no⟩,⟨some 15,(.call (.k (.fn (.func 62) [] [])) [(.t 12),(.t 14)]),no⟩,⟨some 11,(.mv (.t 15)),no⟩,⟨some 16,(.ext (.t 11) 0),no⟩,⟨some 17,(.ext (.t 11) 1),no⟩,⟨some 7,(.box [(.str []),(.nil 1),(.bool false),(.nil 2)]),no⟩,⟨no,(.st 4 (.t 7) (.t 16)),no⟩,⟨some 8,(.mv (.t 17)),no⟩]) (.seq (.seq
 (.reg [⟨some 18,(.mv (.t 8)),no⟩,⟨some 19,(.un .not (.t 18)),no⟩,⟨some 20,(.mv (.t 19)),no⟩,⟨some 21,(.fld 2 (.t 4)),(some (20,false))⟩,⟨some 22,(.ld false 1 (.t 21)),(some (20,false))⟩,⟨some 23,(.len false (.t 22)),(some (20,false))⟩,⟨some 24,(.fld 1 (.t 7)),(some (20,false))⟩,⟨some 25,(.ld false 1 (.t 24)),(some (20,false))⟩,⟨some 26,(.len false (.t 25)),(some (20,false))⟩,⟨some 27,(.bin .neq (.t 23) (.t 26)),(some (20,false))⟩,⟨some 28,(.pick (.t 20) (.k (.bool true)) (.t 27)),no⟩]) (.cond (.t 28) (.seq
 (.reg [⟨some 6,(.mv (.k (.bool false))),no⟩]) .ret) .skip)) (.seq (.seq
 (.reg [⟨some 29,(.fld 2 (.t 7)),no⟩,⟨some 30,(.ld false 1 (.t 29)),no⟩,⟨some 31,(.mv (.t 30)),no⟩,⟨some 32,(.fld 0 (.t 4)),(some (31,true))⟩,⟨some 33,(.ld false 1 (.t 32)),(some (31,true))⟩,⟨some 34,(.call (.k (.fn (.func 64) [] [])) [(.t 33)]),(some (31,true))⟩,⟨some 35,(.un .not (.t 34)),(some (31,true))⟩,⟨some 36,(.pick (.t 31) (.t 35) (.k (.bool false))),no⟩,⟨some 37,(.mv (.t 36)),no⟩,⟨some 38,(.fld 2 (.t 7)),(some (37,false))⟩,⟨some 39,(.ld false 1 (.t 38)),(some (37,false))⟩,⟨some 40,(.un .not (.t 39)),(some (37,false))⟩,⟨some 41,(.mv (.t 40)),(some (37,false))⟩,⟨some 42,(.fld 0 (.t 4)),(some (41,true))⟩,⟨some 43,(.ld false 1 (.t 42)),(some (41,true))⟩,⟨some 44,(.call (.k (.fn (.func 149) [] [])) [(.t 43)]),(some (41,true))⟩,⟨some 45,(.un .not (.t 44)),(some (41,true))⟩,⟨some 46,(.pick (.t 41) (.t 45) (.k (.bool false))),(some (37,false))⟩,⟨some 47,(.pick (.t 37) (.k (.bool true)) (.t 46)),no⟩]) (.cond (.t 47) (.seq
 (.reg [⟨some 6,(.mv (.k (.bool false))),no⟩]) .ret) .skip)) (.seq (.seq
 (.reg [⟨some 48,(.fld 2 (.t 4)),no⟩,⟨some 49,(.ld false 1 (.t 48)),no⟩,⟨some 50,(.len false (.t 49)),no⟩,⟨some 51,(.mv (.k (.int .i64 0))),no⟩]) (.blk 0 (.loop (.seq
 (.reg [⟨some 52,(.bin .lss (.t 51) (.t 50)),no⟩]) (.seq (.cond (.t 52) .skip (.exit 0)) (.seq (.blk 1 (.seq
 (.reg [⟨some 53,(.mv (.t 51)),no⟩,⟨some 54,(.ixa 3 (.t 49) (.t 51)),no⟩,⟨some 55,(.ld true 3 (.t 54)),no⟩,⟨some 10,(.box [(.bool false),(.nil 2),(.str [])]),no⟩,⟨some 9,(.mv (.t 53)),no⟩,⟨no,(.st 3 (.t 10) (.t 55)),no⟩]) (.seq (.draw (.op ⟨some 56,(.ld true 3 (.t 10)),no⟩ (.op ⟨some 57,(.call (.k (.fn (.func 230) [] [])) [(.t 56)]),no⟩ (.op ⟨some 58,(.un .not (.t 57)),no⟩ (.op ⟨some 59,(.mv (.t 58)),no⟩ (.op ⟨some 60,(.fld 0 (.t 10)),(some (59,false))⟩ (.op ⟨some 61,(.ld false 1 (.t 60)),(some (59,false))⟩ (.op ⟨some 62,(.fld 1 (.t 7)),(some (59,false))⟩ (.op ⟨some 63,(.ld false 1 (.t 62)),(some (59,false))⟩ (.op ⟨some 64,(.mv (.t 9)),(some (59,false))⟩ (.op ⟨some 65,(.ixa 1 (.t 63) (.t 64)),(some (59,false))⟩ (.op ⟨some 66,(.ld false 1 (.t 65)),(some (59,false))⟩ (.op ⟨some 67,(.call (.k (.fn (.func 64) [] [])) [(.t 66)]),(some (59,false))⟩ (.op ⟨some 68,(.beq true (.t 61) (.t 67)),(some (59,false))⟩ (.op ⟨some 69,(.pick (.t 59) (.k (.bool true)) (.t 68)),no⟩ (.op ⟨some 70,(.mv (.t 69)),no⟩ (.op ⟨some 71,(.ld true 3 (.t 10)),(some (70,false))⟩ (.op ⟨some 73,(.mv (.t 2)),(some (70,false))⟩ (.op ⟨some 72,(.call (.k (.fn (.func 231) [] [])) [(.t 71)]),(some (70,false))⟩ (.op ⟨some 74,(.call (.k (.fn (.func 226) [] [])) [(.t 72),(.t 73)]),(some (70,false))⟩ (.op ⟨some 75,(.un .not (.t 74)),(some (70,false))⟩ (.op ⟨some 76,(.pick (.t 70) (.k (.bool true)) (.t 75)),no⟩ .fin)))))))))))))))))))))) (.cond (.t 76) (.seq
 (.reg [⟨some 6,(.mv (.k (.bool false))),no⟩]) .ret) .skip))))
 (.reg [⟨some 77,(.bin .add (.t 51) (.k (.int .i64 1))),no⟩,⟨some 51,(.mv (.t 77)),no⟩]))))))) (.seq
 (.reg [⟨some 6,(.mv (.k (.bool true))),no⟩]) .ret))))))⟩
theorem a229_ok:compFn Tryz.prog Tryz.f229=some a229:=by kernel_rfl
theorem argsOk_drop {scope:List Str} {l:List DArg} {m:List Str} {i:Nat} (h1:i<l.length) (h2:i<m.length):argsOk scope (l.drop i) (m.drop i)=(argOk l[i] (listName m[i]) scope&&argsOk scope (l.drop (i+1)) (m.drop (i+1))):=by
  rw [List.drop_eq_getElem_cons h1,List.drop_eq_getElem_cons h2]; rfl
theorem argsOk_end (scope:List Str) (m:List Str):argsOk scope [] m=true:=by cases m <;> rfl
theorem wCall_arg {c:DCall} {i:Nat} (hi:i<c.Args.length) (hw:wCall c≤1048576):wArg c.Args[i]≤1048576:=by
  have:=wL_mem (w:=wArg) (List.getElem_mem hi)
  unfold wCall wArgS at hw
  omega
set_option maxRecDepth 20000 in
set_option maxHeartbeats 1000000 in
theorem k_callOk (p:DProgram) (c:DCall) (scope:List Str) (hp:wProgram p≤1048576) (hc:wCall c≤1048576):Holds Tryz.prog 229 [.agg (rAProgram p),.agg (rACall c),.sl 1 (strsR scope)] (fun r=>r = .bool (callB p c scope)):=by
  have hal:c.Args.length≤1048576:=by have:=wL_len wArg c.Args; unfold wCall wArgS at hc; omega
  refine holds_of_run Tryz.func229 a229_ok rfl (by simp [a229]) ?_
  simp [a229,rAProgram,rACall]
  first | refine callD_of (k_FindFunction p c.Func hp) (by simp [rAProgram]) ?_ | refine call_of (k_FindFunction p c.Func hp) (by simp [rAProgram]) ?_ | refine callD_of (k_FindFunction p c.Func hp) rfl ?_ | refine call_of (k_FindFunction p c.Func hp) rfl ?_
  rintro r rfl
  unfold callB
  generalize hG:(findFn p.Functions c.Func).getD fn0=G
  simp only [optFn,hG]
  generalize hb1:(findFn p.Functions c.Func).isSome=b1
  simp [rUFunction]
  cases b1
  · simp
  simp
  intro _ _
  have hd:decide (c.Args.length=G.Params.length)=decide ((c.Args.length:Int)=G.Params.length):=by rw [decide_eq_decide]; omega
  by_cases h1:(c.Args.length:Int)=G.Params.length
  case neg=>
    have h1n:¬c.Args.length=G.Params.length:=by omega
    simp [h1,h1n]
  have h1n:c.Args.length=G.Params.length:=by omega
  simp [h1,h1n]
  generalize hB:argsOk scope c.Args G.Params=B
  cases hL:G.ListResult
  · simp
    first | refine callD_of (k_isIntName c.Bind) (by simp) ?_ | refine call_of (k_isIntName c.Bind) (by simp) ?_ | refine callD_of (k_isIntName c.Bind) rfl ?_ | refine call_of (k_isIntName c.Bind) rfl ?_
    rintro r rfl
    cases hn:intName c.Bind
    · simp
    simp [hL]
    intro _
    refine rL_forO [2,7,49,50] 51 c.Args.length (fun i s h n=>4<n∧h 4=some ⟨true,4,[[.str G.Name,.ref 2 0 G.Params.length,.bool false,.ref 3 0 G.Pre.length]]⟩∧h 2=some ⟨false,1,strsR G.Params⟩∧argsOk scope (c.Args.drop i) (G.Params.drop i)=B) (by unfold LIM; omega) (by simp) ⟨by simp,by simp,by simp,by simpa using hB⟩ ?_ ?_
    · rintro i st h n R hi hg hk s51 hw ⟨hn,e4,e2,hJ⟩ hR hret _
      simp at hk
      have hip:i<G.Params.length:=by omega
      rw [argsOk_drop hi hip] at hJ
      have z2:¬2=n:=by omega
      have z4:¬4=n:=by omega
      have y2:¬2=n+1:=by omega
      have y4:¬4=n+1:=by omega
      refine rC_cut [2,7,49,50,51] (fun s=>s 52 = .bool true) (by simp [hk,s51,hi,←h1n]) ?_
      intro st1 hk1 s52
      simp at hk1
      refine rC_pass s52 (rC_seqI (rC_blkI ?_))
      refine rC_cutH [2,7,49,50,51] (fun s h' n'=>s 9 = .int .i64 i∧s 10 = .ptr n 0 0∧n'=n+1∧h' n=some ⟨true,3,[rAArg c.Args[i]]⟩∧h' 4=some ⟨true,4,[[.str G.Name,.ref 2 0 G.Params.length,.bool false,.ref 3 0 G.Pre.length]]⟩∧h' 2=some ⟨false,1,strsR G.Params⟩) (by simp [hk,hk1,s51,hi,rAArg,e4,e2,z2,z4]) ?_
      rintro st2 h2 n2 hk2 ⟨s9,s10,rfl,en,e4',e2'⟩
      simp at hk2
      refine rC_cutH [2,7,49,50,51] (fun s h' n'=>n<n'∧s 76 = .bool (!argOk c.Args[i] (listName G.Params[i]) scope)∧h' 4=some ⟨true,4,[[.str G.Name,.ref 2 0 G.Params.length,.bool false,.ref 3 0 G.Pre.length]]⟩∧h' 2=some ⟨false,1,strsR G.Params⟩) ?_ ?_
      · simp [hk,hk1,hk2,s10,en]
        first | refine callD_of (k_IsValidArg (c.Args[i]'hi)) (by simp) ?_ | refine call_of (k_IsValidArg (c.Args[i]'hi)) (by simp) ?_ | refine callD_of (k_IsValidArg (c.Args[i]'hi)) rfl ?_ | refine call_of (k_IsValidArg (c.Args[i]'hi)) rfl ?_
        rintro r rfl
        unfold argOk
        cases g1:okArg c.Args[i]
        · simp [e4',e2']
        simp [hk,hk1,hk2,s9,s10,en,e4',e2',hip,rAArg]
        first | refine callD_of (k_IsListName (G.Params[i]'hip)) (by simp) ?_ | refine call_of (k_IsListName (G.Params[i]'hip)) (by simp) ?_ | refine callD_of (k_IsListName (G.Params[i]'hip)) rfl ?_ | refine call_of (k_IsListName (G.Params[i]'hip)) rfl ?_
        rintro r rfl
        cases g2:((c.Args[i]).Lst==listName G.Params[i])
        · have g2':¬(c.Args[i]).Lst=listName G.Params[i]:=by simpa using g2
          simp [g2',e4',e2']
        have g2':(c.Args[i]).Lst=listName G.Params[i]:=by simpa using g2
        simp [g2',hk,hk1,hk2,s9,s10,en,e4',e2',hip,rAArg]
        first | refine callD_of (k_NamesOf (c.Args[i]'hi) (wCall_arg hi hc)) (by simp [rAArg,g2']) ?_ | refine call_of (k_NamesOf (c.Args[i]'hi) (wCall_arg hi hc)) (by simp [rAArg,g2']) ?_ | refine callD_of (k_NamesOf (c.Args[i]'hi) (wCall_arg hi hc)) rfl ?_ | refine call_of (k_NamesOf (c.Args[i]'hi) (wCall_arg hi hc)) rfl ?_
        rintro r rfl
        simp [g2',hk,hk1,hk2,s9,s10,en,e4',e2',hip,rAArg,y2,y4]
        first | refine callD_of (k_allIn (snames (argN0 (c.Args[i]'hi))) scope) (by simp) ?_ | refine call_of (k_allIn (snames (argN0 (c.Args[i]'hi))) scope) (by simp) ?_ | refine callD_of (k_allIn (snames (argN0 (c.Args[i]'hi))) scope) rfl ?_ | refine call_of (k_allIn (snames (argN0 (c.Args[i]'hi))) scope) rfl ?_
        rintro r rfl
        simp [e4',e2',y2,y4]
      rintro st3 h3 n3 hk3 ⟨hn3,s76,e4'',e2''⟩
      simp at hk3
      generalize argOk c.Args[i] (listName G.Params[i]) scope=D at *
      cases D
      · rw [Bool.false_and] at hJ
        subst hJ
        simp [s76]
        refine hret _ _ _ ?_
        simp
      · rw [Bool.true_and] at hJ
        simp [hk,hk1,hk2,hk3,s76,s51,hw]
        exact hR _ _ _ (by simp [hk,hk1,hk2,hk3]) (by simp) ⟨by omega,by simp [e4''],by simp [e2''],hJ⟩
    · rintro st h n R hk s51 ⟨hn,e4,e2,hJ⟩ hret hX
      simp at hk
      rw [List.drop_eq_nil_of_le (by omega),argsOk_end] at hJ
      refine rC_cut [2] (fun s=>s 52 = .bool false) (by simp [hk,s51,←h1n]) ?_
      intro st1 hk1 s52
      refine rC_stop s52 ?_
      simp
      refine hX _ _ _ _ ?_
      simp [←hJ]
  · simp
    first | refine callD_of (k_IsListName c.Bind) (by simp) ?_ | refine call_of (k_IsListName c.Bind) (by simp) ?_ | refine callD_of (k_IsListName c.Bind) rfl ?_ | refine call_of (k_IsListName c.Bind) rfl ?_
    rintro r rfl
    cases hn:listName c.Bind
    · simp
    simp [hL]
    intro _
    refine rL_forO [2,7,49,50] 51 c.Args.length (fun i s h n=>4<n∧h 4=some ⟨true,4,[[.str G.Name,.ref 2 0 G.Params.length,.bool true,.ref 3 0 G.Pre.length]]⟩∧h 2=some ⟨false,1,strsR G.Params⟩∧argsOk scope (c.Args.drop i) (G.Params.drop i)=B) (by unfold LIM; omega) (by simp) ⟨by simp,by simp,by simp,by simpa using hB⟩ ?_ ?_
    · rintro i st h n R hi hg hk s51 hw ⟨hn,e4,e2,hJ⟩ hR hret _
      simp at hk
      have hip:i<G.Params.length:=by omega
      rw [argsOk_drop hi hip] at hJ
      have z2:¬2=n:=by omega
      have z4:¬4=n:=by omega
      have y2:¬2=n+1:=by omega
      have y4:¬4=n+1:=by omega
      refine rC_cut [2,7,49,50,51] (fun s=>s 52 = .bool true) (by simp [hk,s51,hi,←h1n]) ?_
      intro st1 hk1 s52
      simp at hk1
      refine rC_pass s52 (rC_seqI (rC_blkI ?_))
      refine rC_cutH [2,7,49,50,51] (fun s h' n'=>s 9 = .int .i64 i∧s 10 = .ptr n 0 0∧n'=n+1∧h' n=some ⟨true,3,[rAArg c.Args[i]]⟩∧h' 4=some ⟨true,4,[[.str G.Name,.ref 2 0 G.Params.length,.bool true,.ref 3 0 G.Pre.length]]⟩∧h' 2=some ⟨false,1,strsR G.Params⟩) (by simp [hk,hk1,s51,hi,rAArg,e4,e2,z2,z4]) ?_
      rintro st2 h2 n2 hk2 ⟨s9,s10,rfl,en,e4',e2'⟩
      simp at hk2
      refine rC_cutH [2,7,49,50,51] (fun s h' n'=>n<n'∧s 76 = .bool (!argOk c.Args[i] (listName G.Params[i]) scope)∧h' 4=some ⟨true,4,[[.str G.Name,.ref 2 0 G.Params.length,.bool true,.ref 3 0 G.Pre.length]]⟩∧h' 2=some ⟨false,1,strsR G.Params⟩) ?_ ?_
      · simp [hk,hk1,hk2,s10,en]
        first | refine callD_of (k_IsValidArg (c.Args[i]'hi)) (by simp) ?_ | refine call_of (k_IsValidArg (c.Args[i]'hi)) (by simp) ?_ | refine callD_of (k_IsValidArg (c.Args[i]'hi)) rfl ?_ | refine call_of (k_IsValidArg (c.Args[i]'hi)) rfl ?_
        rintro r rfl
        unfold argOk
        cases g1:okArg c.Args[i]
        · simp [e4',e2']
        simp [hk,hk1,hk2,s9,s10,en,e4',e2',hip,rAArg]
        first | refine callD_of (k_IsListName (G.Params[i]'hip)) (by simp) ?_ | refine call_of (k_IsListName (G.Params[i]'hip)) (by simp) ?_ | refine callD_of (k_IsListName (G.Params[i]'hip)) rfl ?_ | refine call_of (k_IsListName (G.Params[i]'hip)) rfl ?_
        rintro r rfl
        cases g2:((c.Args[i]).Lst==listName G.Params[i])
        · have g2':¬(c.Args[i]).Lst=listName G.Params[i]:=by simpa using g2
          simp [g2',e4',e2']
        have g2':(c.Args[i]).Lst=listName G.Params[i]:=by simpa using g2
        simp [g2',hk,hk1,hk2,s9,s10,en,e4',e2',hip,rAArg]
        first | refine callD_of (k_NamesOf (c.Args[i]'hi) (wCall_arg hi hc)) (by simp [rAArg,g2']) ?_ | refine call_of (k_NamesOf (c.Args[i]'hi) (wCall_arg hi hc)) (by simp [rAArg,g2']) ?_ | refine callD_of (k_NamesOf (c.Args[i]'hi) (wCall_arg hi hc)) rfl ?_ | refine call_of (k_NamesOf (c.Args[i]'hi) (wCall_arg hi hc)) rfl ?_
        rintro r rfl
        simp [g2',hk,hk1,hk2,s9,s10,en,e4',e2',hip,rAArg,y2,y4]
        first | refine callD_of (k_allIn (snames (argN0 (c.Args[i]'hi))) scope) (by simp) ?_ | refine call_of (k_allIn (snames (argN0 (c.Args[i]'hi))) scope) (by simp) ?_ | refine callD_of (k_allIn (snames (argN0 (c.Args[i]'hi))) scope) rfl ?_ | refine call_of (k_allIn (snames (argN0 (c.Args[i]'hi))) scope) rfl ?_
        rintro r rfl
        simp [e4',e2',y2,y4]
      rintro st3 h3 n3 hk3 ⟨hn3,s76,e4'',e2''⟩
      simp at hk3
      generalize argOk c.Args[i] (listName G.Params[i]) scope=D at *
      cases D
      · rw [Bool.false_and] at hJ
        subst hJ
        simp [s76]
        refine hret _ _ _ ?_
        simp
      · rw [Bool.true_and] at hJ
        simp [hk,hk1,hk2,hk3,s76,s51,hw]
        exact hR _ _ _ (by simp [hk,hk1,hk2,hk3]) (by simp) ⟨by omega,by simp [e4''],by simp [e2''],hJ⟩
    · rintro st h n R hk s51 ⟨hn,e4,e2,hJ⟩ hret hX
      simp at hk
      rw [List.drop_eq_nil_of_le (by omega),argsOk_end] at hJ
      refine rC_cut [2] (fun s=>s 52 = .bool false) (by simp [hk,s51,←h1n]) ?_
      intro st1 hk1 s52
      refine rC_stop s52 ?_
      simp
      refine hX _ _ _ _ ?_
      simp [←hJ]
end Go.Proofs.YtilcageplifbgaaGreat

namespace Go.Proofs.YtilcageplifbgaaGreat
set_option linter.all false
open Go Go.RowKit Go.Proofs
def a210:AFn:=
⟨70,[(.t 6)],(.seq
 (.reg [⟨some 3,(.boxv (.t 0)),no⟩,⟨some 4,(.boxv (.t 1)),no⟩,⟨some 6,(.mv (.k (.bool false))),no⟩]) (.seq
 (.reg [⟨some 11,(.ld true 2 (.t 3)),no⟩,⟨some 12,(.fld 1 (.t 4)),no⟩,⟨some 13,(.ld false 1 (.t 12)),no⟩,⟨some 14,(.call (.k (.fn (.func 57) [] [])) [(.t 11),(.t 13)]),no⟩,⟨some 10,(.mv (.t 14)),no⟩,⟨some 15,(.ext (.t 10) 0),no⟩,⟨some 16,(.ext (.t 10) 1),no⟩,⟨some 7,(.box [(.str []),(.nil 1),(.bool false),(.nil 2)]),no⟩,⟨no,(.st 4 (.t 7) (.t 15)),no⟩,⟨some 8,(.mv (.t 16)),no⟩]) (.seq (.seq
 (.reg [⟨some 17,(.mv (.t 8)),no⟩,⟨some 18,(.un .not (.t 17)),no⟩,⟨some 19,(.mv (.t 18)),no⟩,⟨some 20,(.fld 2 (.t 4)),(some (19,false))⟩,⟨some 21,(.ld false 1 (.t 20)),(some (19,false))⟩,⟨some 22,(.len false (.t 21)),(some (19,false))⟩,⟨some 23,(.fld 1 (.t 7)),(some (19,false))⟩,⟨some 24,(.ld false 1 (.t 23)),(some (19,false))⟩,⟨some 25,(.len false (.t 24)),(some (19,false))⟩,⟨some 26,(.bin .neq (.t 22) (.t 25)),(some (19,false))⟩,⟨some 27,(.pick (.t 19) (.k (.bool true)) (.t 26)),no⟩,⟨some 28,(.mv (.t 27)),no⟩,⟨some 29,(.fld 2 (.t 7)),(some (28,false))⟩,⟨some 30,(.ld false 1 (.t 29)),(some (28,false))⟩,⟨some 31,(.mv (.t 30)),(some (28,false))⟩,⟨some 32,(.fld 0 (.t 4)),(some (31,true))⟩,⟨some 33,(.ld false 1 (.t 32)),(some (31,true))⟩,⟨some 34,(.call (.k (.fn (.func 143) [] [])) [(.t 33)]),(some (31,true))⟩,⟨some 35,(.un .not (.t 34)),(some (31,true))⟩,⟨some 36,(.pick (.t 31) (.t 35) (.k (.bool false))),(some (28,false))⟩,⟨some 37,(.pick (.t 28) (.k (.bool true)) (.t 36)),no⟩,⟨some 38,(.mv (.t 37)),no⟩,⟨some 39,(.fld 2 (.t 7)),(some (38,false))⟩,⟨some 40,(.ld false 1 (.t 39)),(some (38,false))⟩,⟨some 41,(.un .not (.t 40)),(some (38,false))⟩,⟨some 42,(.mv (.t 41)),(some (38,false))⟩,⟨some 43,(.fld 0 (.t 4)),(some (42,true))⟩,⟨some 44,(.ld false 1 (.t 43)),(some (42,true))⟩,⟨some 45,(.call (.k (.fn (.func 204) [] [])) [(.t 44)]),(some (42,true))⟩,⟨some 46,(.un .not (.t 45)),(some (42,true))⟩,⟨some 47,(.pick (.t 42) (.t 46) (.k (.bool false))),(some (38,false))⟩,⟨some 48,(.pick (.t 38) (.k (.bool true)) (.t 47)),no⟩]) (.cond (.t 48) (.seq
 (.reg [⟨some 6,(.mv (.k (.bool false))),no⟩]) .ret) .skip)) (.seq (.seq
 (.reg [⟨some 9,(.mv (.k (.int .i64 0))),no⟩]) (.blk 0 (.loop (.seq (.seq
 (.reg [⟨some 49,(.mv (.t 9)),no⟩,⟨some 50,(.fld 2 (.t 4)),no⟩,⟨some 51,(.ld false 1 (.t 50)),no⟩,⟨some 52,(.len false (.t 51)),no⟩,⟨some 53,(.bin .lss (.t 49) (.t 52)),no⟩]) (.cond (.t 53) .skip (.exit 0))) (.seq (.blk 1 (.seq (.draw (.op ⟨some 56,(.fld 2 (.t 4)),no⟩ (.op ⟨some 57,(.ld false 1 (.t 56)),no⟩ (.op ⟨some 58,(.mv (.t 9)),no⟩ (.op ⟨some 59,(.ixa 3 (.t 57) (.t 58)),no⟩ (.op ⟨some 60,(.ld true 3 (.t 59)),no⟩ (.op ⟨some 61,(.fld 1 (.t 7)),no⟩ (.op ⟨some 62,(.ld false 1 (.t 61)),no⟩ (.op ⟨some 63,(.mv (.t 9)),no⟩ (.op ⟨some 64,(.ixa 1 (.t 62) (.t 63)),no⟩ (.op ⟨some 65,(.ld false 1 (.t 64)),no⟩ (.op ⟨some 67,(.mv (.t 2)),no⟩ (.op ⟨some 66,(.call (.k (.fn (.func 143) [] [])) [(.t 65)]),no⟩ (.op ⟨some 68,(.call (.k (.fn (.func 211) [] [])) [(.t 60),(.t 66),(.t 67)]),no⟩ (.op ⟨some 69,(.un .not (.t 68)),no⟩ .fin))))))))))))))) (.cond (.t 69) (.seq
 (.reg [⟨some 6,(.mv (.k (.bool false))),no⟩]) .ret) .skip)))
 (.reg [⟨some 54,(.mv (.t 9)),no⟩,⟨some 55,(.bin .add (.t 54) (.k (.int .i64 1))),no⟩,⟨some 9,(.mv (.t 55)),no⟩])))))) (.seq
 (.reg [⟨some 6,(.mv (.k (.bool true))),no⟩]) .ret)))))⟩
theorem a210_ok:compFn Tryz.prog Tryz.f210=some a210:=by kernel_rfl
set_option maxRecDepth 20000 in
set_option maxHeartbeats 1000000 in
theorem ks_l10Call (p:DProgram) (c:DCall) (scope:List Str) (hp:wProgram p≤1048576) (hc:wCall c≤1048576):Holds Tryz.prog 210 [.agg (rAProgram p),.agg (rACall c),.sl 1 (strsR scope)] (fun r=>r = .bool (callB p c scope)):=by
  have hal:c.Args.length≤1048576:=by have:=wL_len wArg c.Args; unfold wCall wArgS at hc; omega
  refine holds_of_run Tryz.func210 a210_ok rfl (by simp [a210]) ?_
  simp [a210,rAProgram,rACall]
  first | refine callD_of (ks_FindFunction p c.Func hp) (by simp [rAProgram]) ?_ | refine call_of (ks_FindFunction p c.Func hp) (by simp [rAProgram]) ?_ | refine callD_of (ks_FindFunction p c.Func hp) rfl ?_ | refine call_of (ks_FindFunction p c.Func hp) rfl ?_
  rintro r rfl
  unfold callB
  generalize hG:(findFn p.Functions c.Func).getD fn0=G
  simp only [optFn,hG]
  generalize hb1:(findFn p.Functions c.Func).isSome=b1
  simp [rUFunction]
  cases b1
  · simp
  simp
  intro _ _
  have hd:decide (c.Args.length=G.Params.length)=decide ((c.Args.length:Int)=G.Params.length):=by rw [decide_eq_decide]; omega
  by_cases h1:(c.Args.length:Int)=G.Params.length
  case neg=>
    have h1n:¬c.Args.length=G.Params.length:=by omega
    simp [h1,h1n]
  have h1n:c.Args.length=G.Params.length:=by omega
  simp [h1,h1n]
  generalize hB:argsOk scope c.Args G.Params=B
  cases hL:G.ListResult
  · simp
    first | refine callD_of (ks_l10IntName c.Bind) (by simp) ?_ | refine call_of (ks_l10IntName c.Bind) (by simp) ?_ | refine callD_of (ks_l10IntName c.Bind) rfl ?_ | refine call_of (ks_l10IntName c.Bind) rfl ?_
    rintro r rfl
    cases hn:intName c.Bind
    · simp
    simp [hL]
    refine rL_forO [2,4,7] 9 c.Args.length (fun i s h n=>4<n∧h 1=some ⟨true,3,[[.str c.Bind,.str c.Func,.sl 3 (c.Args.map rAArg)]]⟩∧h 4=some ⟨true,4,[[.str G.Name,.ref 2 0 G.Params.length,.bool false,.ref 3 0 G.Pre.length]]⟩∧h 2=some ⟨false,1,strsR G.Params⟩∧argsOk scope (c.Args.drop i) (G.Params.drop i)=B) (by unfold LIM; omega) (by simp) ⟨by simp,by simp,by simp,by simp,by simpa using hB⟩ ?_ ?_
    · rintro i st h n R hi hg hk s9 hw ⟨hn,e1,e4,e2,hJ⟩ hR hret _
      simp at hk
      have hip:i<G.Params.length:=by omega
      rw [argsOk_drop hi hip] at hJ
      refine rC_seqI (rC_cut [2,4,7,9] (fun s=>s 53 = .bool true) (by simp [hk,s9,hi,hip,e1,h1n]) ?_)
      intro st1 hk1 s53
      simp at hk1
      refine rC_pass1 s53 (rC_seqI (rC_blkI ?_))
      refine rC_cutH [2,4,7,9] (fun s h' n'=>4<n'∧s 69 = .bool (!argOk c.Args[i] (listName G.Params[i]) scope)∧h' 1=some ⟨true,3,[[.str c.Bind,.str c.Func,.sl 3 (c.Args.map rAArg)]]⟩∧h' 4=some ⟨true,4,[[.str G.Name,.ref 2 0 G.Params.length,.bool false,.ref 3 0 G.Pre.length]]⟩∧h' 2=some ⟨false,1,strsR G.Params⟩) ?_ ?_
      · simp [hk,hk1,s9,e1,e4,e2,hi,hip,hg]
        first | refine callD_of (ks_IsListName (G.Params[i]'hip)) (by simp) ?_ | refine call_of (ks_IsListName (G.Params[i]'hip)) (by simp) ?_ | refine callD_of (ks_IsListName (G.Params[i]'hip)) rfl ?_ | refine call_of (ks_IsListName (G.Params[i]'hip)) rfl ?_
        rintro r rfl
        simp [hk,hk1,s9,e1,e4,e2,hi,hip,rAArg]
        first | refine callD_of (ks_l10Arg (c.Args[i]'hi) (listName (G.Params[i]'hip)) scope (wCall_arg hi hc)) (by simp [rAArg]) ?_ | refine call_of (ks_l10Arg (c.Args[i]'hi) (listName (G.Params[i]'hip)) scope (wCall_arg hi hc)) (by simp [rAArg]) ?_ | refine callD_of (ks_l10Arg (c.Args[i]'hi) (listName (G.Params[i]'hip)) scope (wCall_arg hi hc)) rfl ?_ | refine call_of (ks_l10Arg (c.Args[i]'hi) (listName (G.Params[i]'hip)) scope (wCall_arg hi hc)) rfl ?_
        rintro r rfl
        simp [e1,e4,e2,hn]
      rintro st3 h3 n3 hk3 ⟨hn3,s69,e1'',e4'',e2''⟩
      simp at hk3
      generalize argOk c.Args[i] (listName G.Params[i]) scope=D at *
      cases D
      · rw [Bool.false_and] at hJ
        subst hJ
        simp [s69]
        refine hret _ _ _ ?_
        simp
      · rw [Bool.true_and] at hJ
        simp [hk,hk1,hk3,s69,s9,hw]
        exact hR _ _ _ (by simp [hk,hk1,hk3]) (by simp) ⟨by omega,by simp [e1''],by simp [e4''],by simp [e2''],hJ⟩
    · rintro st h n R hk s9 ⟨hn,e1,e4,e2,hJ⟩ hret hX
      simp at hk
      rw [List.drop_eq_nil_of_le (by omega),argsOk_end] at hJ
      refine rC_seqI (rC_cut [2] (fun s=>s 53 = .bool false) (by simp [hk,s9,e1,h1n]) ?_)
      intro st1 hk1 s53
      refine rC_stop1 s53 ?_
      simp
      refine hX _ _ _ _ ?_
      simp [←hJ]
  · simp
    first | refine callD_of (ks_IsListName c.Bind) (by simp) ?_ | refine call_of (ks_IsListName c.Bind) (by simp) ?_ | refine callD_of (ks_IsListName c.Bind) rfl ?_ | refine call_of (ks_IsListName c.Bind) rfl ?_
    rintro r rfl
    cases hn:listName c.Bind
    · simp
    simp [hL]
    refine rL_forO [2,4,7] 9 c.Args.length (fun i s h n=>4<n∧h 1=some ⟨true,3,[[.str c.Bind,.str c.Func,.sl 3 (c.Args.map rAArg)]]⟩∧h 4=some ⟨true,4,[[.str G.Name,.ref 2 0 G.Params.length,.bool true,.ref 3 0 G.Pre.length]]⟩∧h 2=some ⟨false,1,strsR G.Params⟩∧argsOk scope (c.Args.drop i) (G.Params.drop i)=B) (by unfold LIM; omega) (by simp) ⟨by simp,by simp,by simp,by simp,by simpa using hB⟩ ?_ ?_
    · rintro i st h n R hi hg hk s9 hw ⟨hn,e1,e4,e2,hJ⟩ hR hret _
      simp at hk
      have hip:i<G.Params.length:=by omega
      rw [argsOk_drop hi hip] at hJ
      refine rC_seqI (rC_cut [2,4,7,9] (fun s=>s 53 = .bool true) (by simp [hk,s9,hi,hip,e1,h1n]) ?_)
      intro st1 hk1 s53
      simp at hk1
      refine rC_pass1 s53 (rC_seqI (rC_blkI ?_))
      refine rC_cutH [2,4,7,9] (fun s h' n'=>4<n'∧s 69 = .bool (!argOk c.Args[i] (listName G.Params[i]) scope)∧h' 1=some ⟨true,3,[[.str c.Bind,.str c.Func,.sl 3 (c.Args.map rAArg)]]⟩∧h' 4=some ⟨true,4,[[.str G.Name,.ref 2 0 G.Params.length,.bool true,.ref 3 0 G.Pre.length]]⟩∧h' 2=some ⟨false,1,strsR G.Params⟩) ?_ ?_
      · simp [hk,hk1,s9,e1,e4,e2,hi,hip,hg]
        first | refine callD_of (ks_IsListName (G.Params[i]'hip)) (by simp) ?_ | refine call_of (ks_IsListName (G.Params[i]'hip)) (by simp) ?_ | refine callD_of (ks_IsListName (G.Params[i]'hip)) rfl ?_ | refine call_of (ks_IsListName (G.Params[i]'hip)) rfl ?_
        rintro r rfl
        simp [hk,hk1,s9,e1,e4,e2,hi,hip,rAArg]
        first | refine callD_of (ks_l10Arg (c.Args[i]'hi) (listName (G.Params[i]'hip)) scope (wCall_arg hi hc)) (by simp [rAArg]) ?_ | refine call_of (ks_l10Arg (c.Args[i]'hi) (listName (G.Params[i]'hip)) scope (wCall_arg hi hc)) (by simp [rAArg]) ?_ | refine callD_of (ks_l10Arg (c.Args[i]'hi) (listName (G.Params[i]'hip)) scope (wCall_arg hi hc)) rfl ?_ | refine call_of (ks_l10Arg (c.Args[i]'hi) (listName (G.Params[i]'hip)) scope (wCall_arg hi hc)) rfl ?_
        rintro r rfl
        simp [e1,e4,e2,hn]
      rintro st3 h3 n3 hk3 ⟨hn3,s69,e1'',e4'',e2''⟩
      simp at hk3
      generalize argOk c.Args[i] (listName G.Params[i]) scope=D at *
      cases D
      · rw [Bool.false_and] at hJ
        subst hJ
        simp [s69]
        refine hret _ _ _ ?_
        simp
      · rw [Bool.true_and] at hJ
        simp [hk,hk1,hk3,s69,s9,hw]
        exact hR _ _ _ (by simp [hk,hk1,hk3]) (by simp) ⟨by omega,by simp [e1''],by simp [e4''],by simp [e2''],hJ⟩
    · rintro st h n R hk s9 ⟨hn,e1,e4,e2,hJ⟩ hret hX
      simp at hk
      rw [List.drop_eq_nil_of_le (by omega),argsOk_end] at hJ
      refine rC_seqI (rC_cut [2] (fun s=>s 53 = .bool false) (by simp [hk,s9,e1,h1n]) ?_)
      intro st1 hk1 s53
      refine rC_stop1 s53 ?_
      simp
      refine hX _ _ _ _ ?_
      simp [←hJ]
end Go.Proofs.YtilcageplifbgaaGreat

namespace Go.Proofs.YtilcageplifbgaaGreat
set_option linter.all false
open Go Go.RowKit Go.Proofs
def a158:AFn:=
⟨105,[(.t 4)],(.seq
 (.reg [⟨some 2,(.boxv (.t 0)),no⟩,⟨some 3,(.boxv (.t 1)),no⟩,⟨some 4,(.mv (.k (.bool false))),no⟩]) (.seq
 (.reg [⟨some 13,(.ld true 2 (.t 2)),no⟩,⟨some 14,(.fld 0 (.t 3)),no⟩,⟨some 15,(.ld false 1 (.t 14)),no⟩,⟨some 16,(.call (.k (.fn (.func 62) [] [])) [(.t 13),(.t 15)]),no⟩,⟨some 12,(.mv (.t 16)),no⟩,⟨some 17,(.ext (.t 12) 0),no⟩,⟨some 18,(.ext (.t 12) 1),no⟩,⟨some 5,(.box [(.str []),(.nil 1),(.bool false),(.nil 2)]),no⟩,⟨no,(.st 4 (.t 5) (.t 17)),no⟩,⟨some 6,(.mv (.t 18)),no⟩]) (.seq (.seq
 (.reg [⟨some 19,(.mv (.t 6)),no⟩,⟨some 20,(.un .not (.t 19)),no⟩,⟨some 21,(.mv (.t 20)),no⟩,⟨some 22,(.ld true 4 (.t 5)),(some (21,false))⟩,⟨some 23,(.fld 1 (.t 3)),(some (21,false))⟩,⟨some 24,(.ld false 1 (.t 23)),(some (21,false))⟩,⟨some 25,(.call (.k (.fn (.func 224) [] [])) [(.t 22),(.t 24)]),(some (21,false))⟩,⟨some 26,(.un .not (.t 25)),(some (21,false))⟩,⟨some 27,(.pick (.t 21) (.k (.bool true)) (.t 26)),no⟩,⟨some 28,(.mv (.t 27)),no⟩,⟨some 29,(.fld 2 (.t 3)),(some (28,false))⟩,⟨some 30,(.ld false 1 (.t 29)),(some (28,false))⟩,⟨some 31,(.len false (.t 30)),(some (28,false))⟩,⟨some 32,(.bin .gtr (.t 31) (.k (.int .i64 2))),(some (28,false))⟩,⟨some 33,(.pick (.t 28) (.k (.bool true)) (.t 32)),no⟩,⟨some 34,(.mv (.t 33)),no⟩,⟨some 35,(.fld 3 (.t 3)),(some (34,false))⟩,⟨some 36,(.ld false 1 (.t 35)),(some (34,false))⟩,⟨some 37,(.len false (.t 36)),(some (34,false))⟩,⟨some 38,(.bin .gtr (.t 37) (.k (.int .i64 2))),(some (34,false))⟩,⟨some 39,(.pick (.t 34) (.k (.bool true)) (.t 38)),no⟩]) (.cond (.t 39) (.seq
 (.reg [⟨some 4,(.mv (.k (.bool false))),no⟩]) .ret) .skip)) (.seq (.seq
 (.reg [⟨some 40,(.fld 2 (.t 3)),no⟩,⟨some 41,(.ld false 1 (.t 40)),no⟩,⟨some 42,(.len false (.t 41)),no⟩,⟨some 43,(.mv (.k (.int .i64 0))),no⟩]) (.blk 0 (.loop (.seq
 (.reg [⟨some 44,(.bin .lss (.t 43) (.t 42)),no⟩]) (.seq (.cond (.t 44) .skip (.exit 0)) (.seq (.blk 1 (.seq
 (.reg [⟨some 45,(.ixa 2 (.t 41) (.t 43)),no⟩,⟨some 46,(.ld true 2 (.t 45)),no⟩,⟨some 8,(.box [(.int .i64 0),(.nil 2)]),no⟩,⟨no,(.st 2 (.t 8) (.t 46)),no⟩]) (.seq (.draw (.op ⟨some 47,(.ld true 2 (.t 8)),no⟩ (.op ⟨some 48,(.call (.k (.fn (.func 225) [] [])) [(.t 47)]),no⟩ (.op ⟨some 49,(.un .not (.t 48)),no⟩ (.op ⟨some 50,(.mv (.t 49)),no⟩ (.op ⟨some 51,(.ld true 2 (.t 8)),(some (50,false))⟩ (.op ⟨some 53,(.ld true 2 (.t 2)),(some (50,false))⟩ (.op ⟨some 54,(.ld true 7 (.t 3)),(some (50,false))⟩ (.op ⟨some 52,(.call (.k (.fn (.func 227) [] [])) [(.t 51)]),(some (50,false))⟩ (.op ⟨some 55,(.call (.k (.fn (.func 228) [] [])) [(.t 53),(.t 54),(.k (.int .i64 0))]),(some (50,false))⟩ (.op ⟨some 56,(.call (.k (.fn (.func 226) [] [])) [(.t 52),(.t 55)]),(some (50,false))⟩ (.op ⟨some 57,(.un .not (.t 56)),(some (50,false))⟩ (.op ⟨some 58,(.pick (.t 50) (.k (.bool true)) (.t 57)),no⟩ .fin))))))))))))) (.cond (.t 58) (.seq
 (.reg [⟨some 4,(.mv (.k (.bool false))),no⟩]) .ret) .skip))))
 (.reg [⟨some 59,(.bin .add (.t 43) (.k (.int .i64 1))),no⟩,⟨some 43,(.mv (.t 59)),no⟩]))))))) (.seq (.seq
 (.reg [⟨some 60,(.fld 3 (.t 3)),no⟩,⟨some 61,(.ld false 1 (.t 60)),no⟩,⟨some 62,(.len false (.t 61)),no⟩,⟨some 63,(.mv (.k (.int .i64 0))),no⟩]) (.blk 2 (.loop (.seq
 (.reg [⟨some 64,(.bin .lss (.t 63) (.t 62)),no⟩]) (.seq (.cond (.t 64) .skip (.exit 2)) (.seq (.blk 3 (.seq
 (.reg [⟨some 65,(.mv (.t 63)),no⟩,⟨some 66,(.ixa 3 (.t 61) (.t 63)),no⟩,⟨some 67,(.ld true 3 (.t 66)),no⟩,⟨some 10,(.box [(.str []),(.str []),(.nil 3)]),no⟩,⟨some 9,(.mv (.t 65)),no⟩,⟨no,(.st 3 (.t 10) (.t 67)),no⟩]) (.seq (.draw (.op ⟨some 68,(.ld true 2 (.t 2)),no⟩ (.op ⟨some 69,(.ld true 3 (.t 10)),no⟩ (.op ⟨some 70,(.ld true 2 (.t 2)),no⟩ (.op ⟨some 71,(.ld true 7 (.t 3)),no⟩ (.op ⟨some 72,(.mv (.t 9)),no⟩ (.op ⟨some 73,(.call (.k (.fn (.func 228) [] [])) [(.t 70),(.t 71),(.t 72)]),no⟩ (.op ⟨some 74,(.call (.k (.fn (.func 229) [] [])) [(.t 68),(.t 69),(.t 73)]),no⟩ (.op ⟨some 75,(.un .not (.t 74)),no⟩ .fin))))))))) (.cond (.t 75) (.seq
 (.reg [⟨some 4,(.mv (.k (.bool false))),no⟩]) .ret) .skip))))
 (.reg [⟨some 76,(.bin .add (.t 63) (.k (.int .i64 1))),no⟩,⟨some 63,(.mv (.t 76)),no⟩]))))))) (.seq
 (.reg [⟨some 77,(.ld true 2 (.t 2)),no⟩,⟨some 78,(.ld true 7 (.t 3)),no⟩,⟨some 79,(.fld 3 (.t 3)),no⟩,⟨some 80,(.ld false 1 (.t 79)),no⟩,⟨some 81,(.len false (.t 80)),no⟩,⟨some 82,(.call (.k (.fn (.func 228) [] [])) [(.t 77),(.t 78),(.t 81)]),no⟩,⟨some 11,(.mv (.t 82)),no⟩]) (.seq
 (.reg [⟨some 83,(.fld 4 (.t 3)),no⟩,⟨some 84,(.ld true 3 (.t 83)),no⟩,⟨some 85,(.call (.k (.fn (.func 230) [] [])) [(.t 84)]),no⟩,⟨some 86,(.mv (.t 85)),no⟩,⟨some 87,(.fld 4 (.t 3)),(some (86,true))⟩,⟨some 88,(.fld 0 (.t 87)),(some (86,true))⟩,⟨some 89,(.ld false 1 (.t 88)),(some (86,true))⟩,⟨some 90,(.fld 2 (.t 5)),(some (86,true))⟩,⟨some 91,(.ld false 1 (.t 90)),(some (86,true))⟩,⟨some 92,(.beq false (.t 89) (.t 91)),(some (86,true))⟩,⟨some 93,(.pick (.t 86) (.t 92) (.k (.bool false))),no⟩,⟨some 94,(.mv (.t 93)),no⟩,⟨some 95,(.fld 4 (.t 3)),(some (94,true))⟩,⟨some 96,(.ld true 3 (.t 95)),(some (94,true))⟩,⟨some 97,(.call (.k (.fn (.func 231) [] [])) [(.t 96)]),(some (94,true))⟩,⟨some 98,(.mv (.t 11)),(some (94,true))⟩,⟨some 99,(.call (.k (.fn (.func 226) [] [])) [(.t 97),(.t 98)]),(some (94,true))⟩,⟨some 100,(.pick (.t 94) (.t 99) (.k (.bool false))),no⟩,⟨some 101,(.mv (.t 100)),no⟩,⟨some 102,(.mv (.t 11)),(some (101,true))⟩,⟨some 103,(.call (.k (.fn (.func 150) [] [])) [(.t 102)]),(some (101,true))⟩,⟨some 104,(.pick (.t 101) (.t 103) (.k (.bool false))),no⟩,⟨some 4,(.mv (.t 104)),no⟩]) .ret)))))))⟩
theorem a158_ok:compFn Tryz.prog Tryz.f158=some a158:=by kernel_rfl
theorem wRule_parts {r:DRule} (hr:wRule r≤1048576):(∀ g∈r.Guards,g.Terms.length≤1048576)∧(∀ c∈r.Calls,wCall c≤1048576)∧wArg r.Result≤1048576∧r.Guards.length≤1048576∧r.Calls.length≤1048576∧r.Patterns.length≤1048576∧wSumS r.Guards≤1048576:=by
  have h1:=wL_len wSum r.Guards
  have h2:=wL_len wCall r.Calls
  have h3:=wL_len wPattern r.Patterns
  unfold wRule wPatternS wSumS wCallS at hr
  refine ⟨fun g hg => ?_,fun c hc => ?_,by omega,by omega,by omega,by omega,by unfold wSumS; omega⟩
  · have h4:=wL_mem (w:=wSum) hg
    have h5:=wL_len wTerm g.Terms
    rw [show wSum g=wL wTerm g.Terms from rfl] at h4
    omega
  · have h4:=wL_mem (w:=wCall) hc
    omega
theorem callsFrom_drop {p:DProgram} {r:DRule} {i:Nat} (hi:i<r.Calls.length):callsFrom p r i (r.Calls.drop i)=(callB p r.Calls[i] (scopeOf p r i)&&callsFrom p r (i+1) (r.Calls.drop (i+1))):=by
  rw [List.drop_eq_getElem_cons hi]; rfl
set_option maxRecDepth 20000 in
set_option maxHeartbeats 2000000 in
theorem k_IsValidRule (p:DProgram) (r:DRule) (hp:wProgram p≤1048576) (hr:wRule r≤1048576):Holds Tryz.prog 158 [.agg (rAProgram p),.agg (rARule r)] (fun x=>x = .bool (ruleOk p r)):=by
  obtain ⟨wg,wc,wa,lg,lc,lp,_⟩:=wRule_parts hr
  refine holds_of_run Tryz.func158 a158_ok rfl (by simp [a158]) ?_
  simp [a158,rAProgram,rARule]
  first | refine callD_of (k_FindFunction p r.Func hp) (by simp [rAProgram]) ?_ | refine call_of (k_FindFunction p r.Func hp) (by simp [rAProgram]) ?_ | refine callD_of (k_FindFunction p r.Func hp) rfl ?_ | refine call_of (k_FindFunction p r.Func hp) rfl ?_
  rintro r rfl
  unfold ruleOk
  generalize hG:(findFn p.Functions r.Func).getD fn0=G
  simp only [optFn,hG]
  generalize hb1:(findFn p.Functions r.Func).isSome=b1
  simp [rUFunction]
  cases b1
  · simp
  simp
  first | refine callD_of (k_patternsOk G r.Patterns) (by simp [rAFunction]) ?_ | refine call_of (k_patternsOk G r.Patterns) (by simp [rAFunction]) ?_ | refine callD_of (k_patternsOk G r.Patterns) rfl ?_ | refine call_of (k_patternsOk G r.Patterns) rfl ?_
  rintro r rfl
  cases h1:patsFrom G.Params [] r.Patterns
  · simp
  simp
  intro _
  have hdg:decide (r.Guards.length≤2)=decide ((r.Guards.length:Int)≤2):=by rw [decide_eq_decide]; omega
  have hdc:decide (r.Calls.length≤2)=decide ((r.Calls.length:Int)≤2):=by rw [decide_eq_decide]; omega
  by_cases h2:(r.Guards.length:Int)≤2
  case neg=>
    have h2n:¬r.Guards.length≤2:=by omega
    simp [h2,h2n,Int.not_le.1 h2]
  have h2n:r.Guards.length≤2:=by omega
  simp [h2,h2n,Int.not_lt.2 h2]
  intro _
  by_cases h3:(r.Calls.length:Int)≤2
  case neg=>
    have h3n:¬r.Calls.length≤2:=by omega
    simp [h3,h3n,Int.not_le.1 h3]
  have h3n:r.Calls.length≤2:=by omega
  simp [h3,h3n,Int.not_lt.2 h3]
  intro _
  generalize hB1:r.Guards.all (guardOk (scopeOf p r 0))=B1
  refine rL_forO [2,3,5,41,42] 43 r.Guards.length (fun i s h n=>4<n∧h 0=some ⟨true,2,[rAProgram p]⟩∧h 1=some ⟨true,7,[rARule r]⟩∧h 4=some ⟨true,4,[[.str G.Name,.ref 2 0 G.Params.length,.bool G.ListResult,.ref 3 0 G.Pre.length]]⟩∧(r.Guards.drop i).all (guardOk (scopeOf p r 0))=B1) (by unfold LIM; omega) (by simp) ⟨by simp,by simp [rAProgram],by simp [rARule],by simp,by simpa using hB1⟩ ?_ ?_
  · rintro i st h n R hi hg hk s43 hw ⟨hn,e0,e1,e4,hJ⟩ hR hret _
    simp at hk
    rw [List.drop_eq_getElem_cons hi,List.all_cons] at hJ
    have z0:¬0=n:=by omega
    have z1:¬1=n:=by omega
    have z4:¬4=n:=by omega
    have y0:¬0=n+1:=by omega
    have y1:¬1=n+1:=by omega
    have y4:¬4=n+1:=by omega
    have x0:¬0=n+1+1:=by omega
    have x1:¬1=n+1+1:=by omega
    have x4:¬4=n+1+1:=by omega
    have v0:¬n+1=n+1+1:=by omega
    have v1:¬n+1+1=n+1:=by omega
    have v4:¬n+1=n:=by omega
    have q0:¬n=0:=by omega
    have q1:¬n=1:=by omega
    have q3:¬n=3:=by omega
    have q4:¬n=4:=by omega
    refine rC_cut [2,3,5,41,42,43] (fun s=>s 44 = .bool true) (by simp [hk,s43,hi]) ?_
    intro st1 hk1 s44
    simp at hk1
    refine rC_pass s44 (rC_seqI (rC_blkI ?_))
    refine rC_cutH [2,3,5,41,42,43] (fun s h' n'=>s 8 = .ptr n 0 0∧n'=n+1∧h' n=some ⟨true,2,[rASum r.Guards[i]]⟩∧h' 0=some ⟨true,2,[rAProgram p]⟩∧h' 1=some ⟨true,7,[rARule r]⟩∧h' 4=some ⟨true,4,[[.str G.Name,.ref 2 0 G.Params.length,.bool G.ListResult,.ref 3 0 G.Pre.length]]⟩) (by simp [hk,hk1,s43,hi,rASum,e0,e1,e4,z0,z1,z4,q0,q1,q4]) ?_
    rintro st2 h2' n2 hk2 ⟨s8,rfl,en,e0',e1',e4'⟩
    simp at hk2
    refine rC_cutH [2,3,5,41,42,43] (fun s h' n'=>n<n'∧s 58 = .bool (!guardOk (scopeOf p r 0) r.Guards[i])∧h' 0=some ⟨true,2,[rAProgram p]⟩∧h' 1=some ⟨true,7,[rARule r]⟩∧h' 4=some ⟨true,4,[[.str G.Name,.ref 2 0 G.Params.length,.bool G.ListResult,.ref 3 0 G.Pre.length]]⟩) ?_ ?_
    · simp [hk,hk1,hk2,s8,en]
      first | refine callD_of (k_IsValidSum (r.Guards[i]'hi)) (by simp) ?_ | refine call_of (k_IsValidSum (r.Guards[i]'hi)) (by simp) ?_ | refine callD_of (k_IsValidSum (r.Guards[i]'hi)) rfl ?_ | refine call_of (k_IsValidSum (r.Guards[i]'hi)) rfl ?_
      rintro r rfl
      unfold guardOk
      cases g1:okSum r.Guards[i]
      · simp [e0',e1',e4']
      simp [hk,hk1,hk2,s8,en,e0',e1',e4',rAProgram,rARule]
      first | refine callD_of (k_sumNames (r.Guards[i]'hi) (wg _ (List.getElem_mem hi))) (by simp [rAProgram,rARule]) ?_ | refine call_of (k_sumNames (r.Guards[i]'hi) (wg _ (List.getElem_mem hi))) (by simp [rAProgram,rARule]) ?_ | refine callD_of (k_sumNames (r.Guards[i]'hi) (wg _ (List.getElem_mem hi))) rfl ?_ | refine call_of (k_sumNames (r.Guards[i]'hi) (wg _ (List.getElem_mem hi))) rfl ?_
      rintro r rfl
      simp [hk,hk1,hk2,s8,en,e0',e1',e4',rAProgram,rARule,z0,z1,z4,y0,y1,y4,x0,x1,x4,v0,v1,v4,q0,q1,q3,q4]
      first | refine callD_of (k_ScopeOf p r 0 hp hr) (by simp [rAProgram,rARule]) ?_ | refine call_of (k_ScopeOf p r 0 hp hr) (by simp [rAProgram,rARule]) ?_ | refine callD_of (k_ScopeOf p r 0 hp hr) rfl ?_ | refine call_of (k_ScopeOf p r 0 hp hr) rfl ?_
      rintro r rfl
      simp [hk,hk1,hk2,s8,en,e0',e1',e4',rAProgram,rARule,z0,z1,z4,y0,y1,y4,x0,x1,x4,v0,v1,v4,q0,q1,q3,q4]
      first | refine callD_of (k_allIn (termN (r.Guards[i]'hi)) (scopeOf p r 0)) (by simp [z0,z1,z4,y0,y1,y4,x0,x1,x4,v0,v1,v4,q0,q1,q3,q4]) ?_ | refine call_of (k_allIn (termN (r.Guards[i]'hi)) (scopeOf p r 0)) (by simp [z0,z1,z4,y0,y1,y4,x0,x1,x4,v0,v1,v4,q0,q1,q3,q4]) ?_ | refine callD_of (k_allIn (termN (r.Guards[i]'hi)) (scopeOf p r 0)) rfl ?_ | refine call_of (k_allIn (termN (r.Guards[i]'hi)) (scopeOf p r 0)) rfl ?_
      rintro r rfl
      simp [e0',e1',e4',rAProgram,rARule,z0,z1,z4,y0,y1,y4,x0,x1,x4,v0,v1,v4,q0,q1,q3,q4]
    rintro st3 h3' n3 hk3 ⟨hn3,s58,e0'',e1'',e4''⟩
    simp at hk3
    generalize guardOk (scopeOf p r 0) r.Guards[i]=D at *
    cases D
    · rw [Bool.false_and] at hJ
      subst hJ
      simp [s58]
      refine hret _ _ _ ?_
      simp
    · rw [Bool.true_and] at hJ
      simp [hk,hk1,hk2,hk3,s58,s43,hw]
      exact hR _ _ _ (by simp [hk,hk1,hk2,hk3]) (by simp) ⟨by omega,e0'',e1'',e4'',hJ⟩
  rintro st h n R hk s43 ⟨hn,e0,e1,e4,hJ⟩ hret hX
  simp at hk
  rw [List.drop_eq_nil_of_le (by omega)] at hJ
  refine rC_cut [2,3,5,41,42,43] (fun s=>s 44 = .bool false) (by simp [hk,s43]) ?_
  intro st1 hk1 s44
  simp at hk1
  refine rC_stop s44 ?_
  refine hX _ _ _ _ ?_
  simp at hJ
  subst hJ
  clear hX hret hB1
  simp [hk,hk1,e1,rARule]
  intro _
  generalize hB2:callsFrom p r 0 r.Calls=B2
  refine rL_forO [2,3,5,61,62] 63 r.Calls.length (fun i s h n=>4<n∧h 0=some ⟨true,2,[rAProgram p]⟩∧h 1=some ⟨true,7,[rARule r]⟩∧h 4=some ⟨true,4,[[.str G.Name,.ref 2 0 G.Params.length,.bool G.ListResult,.ref 3 0 G.Pre.length]]⟩∧callsFrom p r i (r.Calls.drop i)=B2) (by unfold LIM; omega) (by simp) ⟨hn,e0,e1,e4,by simpa using hB2⟩ ?_ ?_
  · rintro i st h n R hi hg hkk s63 hw ⟨hn,e0,e1,e4,hJ⟩ hR hret _
    simp at hkk
    rw [callsFrom_drop hi] at hJ
    have z0:¬0=n:=by omega
    have z1:¬1=n:=by omega
    have z4:¬4=n:=by omega
    have y0:¬0=n+1:=by omega
    have y1:¬1=n+1:=by omega
    have y4:¬4=n+1:=by omega
    have x0:¬0=n+1+1:=by omega
    have x1:¬1=n+1+1:=by omega
    have x4:¬4=n+1+1:=by omega
    have v0:¬n+1=n+1+1:=by omega
    have v1:¬n+1+1=n+1:=by omega
    have v4:¬n+1=n:=by omega
    have q0:¬n=0:=by omega
    have q1:¬n=1:=by omega
    have q3:¬n=3:=by omega
    have q4:¬n=4:=by omega
    refine rC_cut [2,3,5,61,62,63] (fun s=>s 64 = .bool true) (by simp [hkk,s63,hi]) ?_
    intro stb hkb s64
    simp at hkb
    refine rC_pass s64 (rC_seqI (rC_blkI ?_))
    refine rC_cutH [2,3,5,61,62,63] (fun s h' n'=>s 9 = .int .i64 i∧s 10 = .ptr n 0 0∧n'=n+1∧h' n=some ⟨true,3,[rACall r.Calls[i]]⟩∧h' 0=some ⟨true,2,[rAProgram p]⟩∧h' 1=some ⟨true,7,[rARule r]⟩∧h' 4=some ⟨true,4,[[.str G.Name,.ref 2 0 G.Params.length,.bool G.ListResult,.ref 3 0 G.Pre.length]]⟩) (by simp [hk,hkk,hk1,hkb,s63,hi,rACall,e0,e1,e4,z0,z1,z4,q0,q1,q4]) ?_
    rintro st2 h2' n2 hk2 ⟨s9,s10,rfl,en,e0',e1',e4'⟩
    simp at hk2
    refine rC_cutH [2,3,5,61,62,63] (fun s h' n'=>n<n'∧s 75 = .bool (!callB p r.Calls[i] (scopeOf p r i))∧h' 0=some ⟨true,2,[rAProgram p]⟩∧h' 1=some ⟨true,7,[rARule r]⟩∧h' 4=some ⟨true,4,[[.str G.Name,.ref 2 0 G.Params.length,.bool G.ListResult,.ref 3 0 G.Pre.length]]⟩) ?_ ?_
    · simp [hk,hkk,hk1,hkb,hk2,s9,s10,en,e0',e1',e4',rAProgram,rARule]
      first | refine callD_of (k_ScopeOf p r i hp hr) (by simp [rAProgram,rARule]) ?_ | refine call_of (k_ScopeOf p r i hp hr) (by simp [rAProgram,rARule]) ?_ | refine callD_of (k_ScopeOf p r i hp hr) rfl ?_ | refine call_of (k_ScopeOf p r i hp hr) rfl ?_
      rintro r rfl
      simp [hk,hkk,hk1,hkb,hk2,s9,s10,en,e0',e1',e4',rAProgram,rARule,z0,z1,z4,y0,y1,y4,x0,x1,x4,v0,v1,v4,q0,q1,q3,q4]
      first | refine callD_of (k_callOk p (r.Calls[i]'hi) (scopeOf p r i) hp (wc _ (List.getElem_mem hi))) (by simp [rAProgram,z0,z1,z4,y0,y1,y4,x0,x1,x4,v0,v1,v4,q0,q1,q3,q4]) ?_ | refine call_of (k_callOk p (r.Calls[i]'hi) (scopeOf p r i) hp (wc _ (List.getElem_mem hi))) (by simp [rAProgram,z0,z1,z4,y0,y1,y4,x0,x1,x4,v0,v1,v4,q0,q1,q3,q4]) ?_ | refine callD_of (k_callOk p (r.Calls[i]'hi) (scopeOf p r i) hp (wc _ (List.getElem_mem hi))) rfl ?_ | refine call_of (k_callOk p (r.Calls[i]'hi) (scopeOf p r i) hp (wc _ (List.getElem_mem hi))) rfl ?_
      rintro r rfl
      simp [e0',e1',e4',rAProgram,rARule,z0,z1,z4,y0,y1,y4,x0,x1,x4,v0,v1,v4,q0,q1,q3,q4]
    rintro st3 h3' n3 hk3 ⟨hn3,s75,e0'',e1'',e4''⟩
    simp at hk3
    generalize callB p r.Calls[i] (scopeOf p r i)=D at *
    cases D
    · rw [Bool.false_and] at hJ
      subst hJ
      simp [s75]
      refine hret _ _ _ ?_
      simp
    · rw [Bool.true_and] at hJ
      simp [hk,hkk,hk1,hkb,hk2,hk3,s75,s63,hw]
      exact hR _ _ _ (by simp [hk,hkk,hk1,hkb,hk2,hk3]) (by simp) ⟨by omega,e0'',e1'',e4'',hJ⟩
  rintro st h n R hkk s63 ⟨hn,e0,e1,e4,hJ⟩ hret hX
  simp at hkk
  rw [List.drop_eq_nil_of_le (by omega)] at hJ
  refine rC_cut [2,3,5,61,62,63] (fun s=>s 64 = .bool false) (by simp [hkk,s63]) ?_
  intro st1 hk1' s64
  simp at hk1'
  refine rC_stop s64 ?_
  refine hX _ _ _ _ ?_
  simp [callsFrom] at hJ
  subst hJ
  clear hX hret hB2
  have z0:¬0=n:=by omega
  have z1:¬1=n:=by omega
  have z4:¬4=n:=by omega
  have y0:¬0=n+1:=by omega
  have y1:¬1=n+1:=by omega
  have y4:¬4=n+1:=by omega
  have x0:¬0=n+1+1:=by omega
  have x1:¬1=n+1+1:=by omega
  have x4:¬4=n+1+1:=by omega
  have v0:¬n+1=n+1+1:=by omega
  have v1:¬n+1+1=n+1:=by omega
  have v4:¬n+1=n:=by omega
  have q0:¬n=0:=by omega
  have q1:¬n=1:=by omega
  have q3:¬n=3:=by omega
  have q4:¬n=4:=by omega
  simp [hk,hk1,hkk,hk1',e0,e1,rARule,rAProgram]
  intro _
  first | refine callD_of (k_ScopeOf p r r.Calls.length hp hr) (by simp [rAProgram,rARule]) ?_ | refine call_of (k_ScopeOf p r r.Calls.length hp hr) (by simp [rAProgram,rARule]) ?_ | refine callD_of (k_ScopeOf p r r.Calls.length hp hr) rfl ?_ | refine call_of (k_ScopeOf p r r.Calls.length hp hr) rfl ?_
  rintro r rfl
  simp [hk,hk1,hkk,hk1',e0,e1,e4,rARule,rAProgram,z0,z1,z4,y0,y1,y4,x0,x1,x4,v0,v1,v4,q0,q1,q3,q4]
  first | refine callD_of (k_IsValidArg r.Result) (by simp [rAArg]) ?_ | refine call_of (k_IsValidArg r.Result) (by simp [rAArg]) ?_ | refine callD_of (k_IsValidArg r.Result) rfl ?_ | refine call_of (k_IsValidArg r.Result) rfl ?_
  rintro r rfl
  unfold argOk
  cases g1:okArg r.Result
  · simp
  simp [hk,hk1,hkk,hk1',e0,e1,e4,rARule,rAProgram,z0,z1,z4,y0,y1,y4,x0,x1,x4,v0,v1,v4,q0,q1,q3,q4]
  cases g2:(r.Result.Lst==G.ListResult)
  · have g2':¬r.Result.Lst=G.ListResult:=by simpa using g2
    simp [g2']
  have g2':r.Result.Lst=G.ListResult:=by simpa using g2
  simp [hk,hk1,hkk,hk1',e0,e1,e4,rARule,rAProgram,z0,z1,z4,y0,y1,y4,x0,x1,x4,v0,v1,v4,q0,q1,q3,q4,g2']
  first | refine callD_of (k_NamesOf r.Result wa) (by simp [rAArg,g2']) ?_ | refine call_of (k_NamesOf r.Result wa) (by simp [rAArg,g2']) ?_ | refine callD_of (k_NamesOf r.Result wa) rfl ?_ | refine call_of (k_NamesOf r.Result wa) rfl ?_
  rintro r rfl
  simp [hk,hk1,hkk,hk1',e0,e1,e4,rARule,rAProgram,z0,z1,z4,y0,y1,y4,x0,x1,x4,v0,v1,v4,q0,q1,q3,q4,g2']
  first | refine callD_of (k_allIn (snames (argN0 r.Result)) (scopeOf p r r.Calls.length)) (by simp [z0,z1,z4,y0,y1,y4,x0,x1,x4,v0,v1,v4,q0,q1,q3,q4]) ?_ | refine call_of (k_allIn (snames (argN0 r.Result)) (scopeOf p r r.Calls.length)) (by simp [z0,z1,z4,y0,y1,y4,x0,x1,x4,v0,v1,v4,q0,q1,q3,q4]) ?_ | refine callD_of (k_allIn (snames (argN0 r.Result)) (scopeOf p r r.Calls.length)) rfl ?_ | refine call_of (k_allIn (snames (argN0 r.Result)) (scopeOf p r r.Calls.length)) rfl ?_
  rintro r rfl
  cases g3:allS (snames (argN0 r.Result)) (scopeOf p r r.Calls.length)
  · simp
  simp [z0,z1,z4,y0,y1,y4,x0,x1,x4,v0,v1,v4,q0,q1,q3,q4]
  first | refine callD_of (k_AllDistinct (scopeOf p r r.Calls.length)) (by simp [z0,z1,z4,y0,y1,y4,x0,x1,x4,v0,v1,v4,q0,q1,q3,q4]) ?_ | refine call_of (k_AllDistinct (scopeOf p r r.Calls.length)) (by simp [z0,z1,z4,y0,y1,y4,x0,x1,x4,v0,v1,v4,q0,q1,q3,q4]) ?_ | refine callD_of (k_AllDistinct (scopeOf p r r.Calls.length)) rfl ?_ | refine call_of (k_AllDistinct (scopeOf p r r.Calls.length)) rfl ?_
  rintro r rfl
  simp
end Go.Proofs.YtilcageplifbgaaGreat

namespace Go.Proofs.YtilcageplifbgaaGreat
set_option linter.all false
open Go Go.RowKit Go.Proofs
def a142:AFn:=
⟨75,[(.t 4)],(.seq
 (.reg [⟨some 2,(.boxv (.t 0)),no⟩,⟨some 3,(.boxv (.t 1)),no⟩,⟨some 4,(.mv (.k (.bool false))),no⟩]) (.seq
 (.reg [⟨some 10,(.ld true 2 (.t 2)),no⟩,⟨some 11,(.fld 0 (.t 3)),no⟩,⟨some 12,(.ld false 1 (.t 11)),no⟩,⟨some 13,(.call (.k (.fn (.func 57) [] [])) [(.t 10),(.t 12)]),no⟩,⟨some 9,(.mv (.t 13)),no⟩,⟨some 14,(.ext (.t 9) 0),no⟩,⟨some 15,(.ext (.t 9) 1),no⟩,⟨some 5,(.box [(.str []),(.nil 1),(.bool false),(.nil 2)]),no⟩,⟨no,(.st 4 (.t 5) (.t 14)),no⟩,⟨some 6,(.mv (.t 15)),no⟩]) (.seq (.seq (.draw (.op ⟨some 16,(.mv (.t 6)),no⟩ (.op ⟨some 17,(.un .not (.t 16)),no⟩ (.op ⟨some 18,(.mv (.t 17)),no⟩ (.op ⟨some 19,(.ld true 4 (.t 5)),(some (18,false))⟩ (.op ⟨some 20,(.fld 1 (.t 3)),(some (18,false))⟩ (.op ⟨some 21,(.ld false 1 (.t 20)),(some (18,false))⟩ (.op ⟨some 22,(.call (.k (.fn (.func 207) [] [])) [(.t 19),(.t 21)]),(some (18,false))⟩ (.op ⟨some 23,(.un .not (.t 22)),(some (18,false))⟩ (.op ⟨some 24,(.pick (.t 18) (.k (.bool true)) (.t 23)),no⟩ (.op ⟨some 25,(.mv (.t 24)),no⟩ (.op ⟨some 26,(.fld 2 (.t 3)),(some (25,false))⟩ (.op ⟨some 27,(.ld false 1 (.t 26)),(some (25,false))⟩ (.op ⟨some 28,(.ld true 2 (.t 2)),(some (25,false))⟩ (.op ⟨some 29,(.ld true 7 (.t 3)),(some (25,false))⟩ (.op ⟨some 30,(.call (.k (.fn (.func 209) [] [])) [(.t 28),(.t 29),(.k (.int .i64 0))]),(some (25,false))⟩ (.op ⟨some 31,(.call (.k (.fn (.func 208) [] [])) [(.t 27),(.t 30)]),(some (25,false))⟩ (.op ⟨some 32,(.un .not (.t 31)),(some (25,false))⟩ (.op ⟨some 33,(.pick (.t 25) (.k (.bool true)) (.t 32)),no⟩ (.op ⟨some 34,(.mv (.t 33)),no⟩ (.op ⟨some 35,(.fld 3 (.t 3)),(some (34,false))⟩ (.op ⟨some 36,(.ld false 1 (.t 35)),(some (34,false))⟩ (.op ⟨some 37,(.len false (.t 36)),(some (34,false))⟩ (.op ⟨some 38,(.bin .gtr (.t 37) (.k (.int .i64 2))),(some (34,false))⟩ (.op ⟨some 39,(.pick (.t 34) (.k (.bool true)) (.t 38)),no⟩ .fin))))))))))))))))))))))))) (.cond (.t 39) (.seq
 (.reg [⟨some 4,(.mv (.k (.bool false))),no⟩]) .ret) .skip)) (.seq (.seq
 (.reg [⟨some 7,(.mv (.k (.int .i64 0))),no⟩]) (.blk 0 (.loop (.seq (.seq
 (.reg [⟨some 40,(.mv (.t 7)),no⟩,⟨some 41,(.fld 3 (.t 3)),no⟩,⟨some 42,(.ld false 1 (.t 41)),no⟩,⟨some 43,(.len false (.t 42)),no⟩,⟨some 44,(.bin .lss (.t 40) (.t 43)),no⟩]) (.cond (.t 44) .skip (.exit 0))) (.seq (.blk 1 (.seq (.draw (.op ⟨some 47,(.ld true 2 (.t 2)),no⟩ (.op ⟨some 48,(.fld 3 (.t 3)),no⟩ (.op ⟨some 49,(.ld false 1 (.t 48)),no⟩ (.op ⟨some 50,(.mv (.t 7)),no⟩ (.op ⟨some 51,(.ixa 3 (.t 49) (.t 50)),no⟩ (.op ⟨some 52,(.ld true 3 (.t 51)),no⟩ (.op ⟨some 53,(.ld true 2 (.t 2)),no⟩ (.op ⟨some 54,(.ld true 7 (.t 3)),no⟩ (.op ⟨some 55,(.mv (.t 7)),no⟩ (.op ⟨some 56,(.call (.k (.fn (.func 209) [] [])) [(.t 53),(.t 54),(.t 55)]),no⟩ (.op ⟨some 57,(.call (.k (.fn (.func 210) [] [])) [(.t 47),(.t 52),(.t 56)]),no⟩ (.op ⟨some 58,(.un .not (.t 57)),no⟩ .fin))))))))))))) (.cond (.t 58) (.seq
 (.reg [⟨some 4,(.mv (.k (.bool false))),no⟩]) .ret) .skip)))
 (.reg [⟨some 45,(.mv (.t 7)),no⟩,⟨some 46,(.bin .add (.t 45) (.k (.int .i64 1))),no⟩,⟨some 7,(.mv (.t 46)),no⟩])))))) (.seq
 (.reg [⟨some 59,(.ld true 2 (.t 2)),no⟩,⟨some 60,(.ld true 7 (.t 3)),no⟩,⟨some 61,(.fld 3 (.t 3)),no⟩,⟨some 62,(.ld false 1 (.t 61)),no⟩,⟨some 63,(.len false (.t 62)),no⟩,⟨some 64,(.call (.k (.fn (.func 209) [] [])) [(.t 59),(.t 60),(.t 63)]),no⟩,⟨some 8,(.mv (.t 64)),no⟩]) (.seq
 (.reg [⟨some 65,(.fld 4 (.t 3)),no⟩,⟨some 66,(.ld true 3 (.t 65)),no⟩,⟨some 67,(.fld 2 (.t 5)),no⟩,⟨some 68,(.ld false 1 (.t 67)),no⟩,⟨some 69,(.mv (.t 8)),no⟩,⟨some 70,(.call (.k (.fn (.func 211) [] [])) [(.t 66),(.t 68),(.t 69)]),no⟩,⟨some 71,(.mv (.t 70)),no⟩,⟨some 72,(.mv (.t 8)),(some (71,true))⟩,⟨some 73,(.call (.k (.fn (.func 206) [] [])) [(.t 72)]),(some (71,true))⟩,⟨some 74,(.pick (.t 71) (.t 73) (.k (.bool false))),no⟩,⟨some 4,(.mv (.t 74)),no⟩]) .ret))))))⟩
theorem a142_ok:compFn Tryz.prog Tryz.f142=some a142:=by kernel_rfl
set_option maxRecDepth 20000 in
set_option maxHeartbeats 2000000 in
theorem ks_IsValidRule (p:DProgram) (r:DRule) (hp:wProgram p≤1048576) (hr:wRule r≤1048576):Holds Tryz.prog 142 [.agg (rAProgram p),.agg (rARule r)] (fun x=>x = .bool (ruleOk p r)):=by
  obtain ⟨wg,wc,wa,lg,lc,lp,wgs⟩:=wRule_parts hr
  refine holds_of_run Tryz.func142 a142_ok rfl (by simp [a142]) ?_
  simp [a142,rAProgram,rARule]
  first | refine callD_of (ks_FindFunction p r.Func hp) (by simp [rAProgram]) ?_ | refine call_of (ks_FindFunction p r.Func hp) (by simp [rAProgram]) ?_ | refine callD_of (ks_FindFunction p r.Func hp) rfl ?_ | refine call_of (ks_FindFunction p r.Func hp) rfl ?_
  rintro r rfl
  unfold ruleOk
  generalize hG:(findFn p.Functions r.Func).getD fn0=G
  simp only [optFn,hG]
  generalize hb1:(findFn p.Functions r.Func).isSome=b1
  simp [rUFunction]
  cases b1
  · simp
  simp
  first | refine callD_of (ks_l10Patterns G r.Patterns lp) (by simp [rAFunction]) ?_ | refine call_of (ks_l10Patterns G r.Patterns lp) (by simp [rAFunction]) ?_ | refine callD_of (ks_l10Patterns G r.Patterns lp) rfl ?_ | refine call_of (ks_l10Patterns G r.Patterns lp) rfl ?_
  rintro r rfl
  cases h1:patsFrom G.Params [] r.Patterns
  · simp
  simp
  first | refine callD_of (ks_ScopeOf p r 0 hp hr) (by simp [rAProgram,rARule]) ?_ | refine call_of (ks_ScopeOf p r 0 hp hr) (by simp [rAProgram,rARule]) ?_ | refine callD_of (ks_ScopeOf p r 0 hp hr) rfl ?_ | refine call_of (ks_ScopeOf p r 0 hp hr) rfl ?_
  rintro r rfl
  simp
  first | refine callD_of (ks_l10Guards r.Guards (scopeOf p r 0) wgs) (by simp) ?_ | refine call_of (ks_l10Guards r.Guards (scopeOf p r 0) wgs) (by simp) ?_ | refine callD_of (ks_l10Guards r.Guards (scopeOf p r 0) wgs) rfl ?_ | refine call_of (ks_l10Guards r.Guards (scopeOf p r 0) wgs) rfl ?_
  rintro r rfl
  generalize hB1:r.Guards.all (guardOk (scopeOf p r 0))=B1
  cases B1
  · simp
  have hdg:decide (r.Guards.length≤2)=decide ((r.Guards.length:Int)≤2):=by rw [decide_eq_decide]; omega
  by_cases h2n:r.Guards.length≤2
  case neg=>simp [h2n]
  simp [h2n]
  by_cases h3:(r.Calls.length:Int)≤2
  case neg=>
    have h3n:¬r.Calls.length≤2:=by omega
    simp [h3,h3n,Int.not_le.1 h3]
  have h3n:r.Calls.length≤2:=by omega
  simp [h3,h3n,Int.not_lt.2 h3]
  generalize hB2:callsFrom p r 0 r.Calls=B2
  refine rL_forO [2,3,5] 7 r.Calls.length (fun i s h n=>4<n∧h 0=some ⟨true,2,[rAProgram p]⟩∧h 1=some ⟨true,7,[rARule r]⟩∧h 4=some ⟨true,4,[[.str G.Name,.ref 2 0 G.Params.length,.bool G.ListResult,.ref 3 0 G.Pre.length]]⟩∧callsFrom p r i (r.Calls.drop i)=B2) (by unfold LIM; omega) (by simp) ⟨by simp,by simp [rAProgram],by simp [rARule],by simp,by simpa using hB2⟩ ?_ ?_
  · rintro i st h n R hi hg hk s7 hw ⟨hn,e0,e1,e4,hJ⟩ hR hret _
    simp at hk
    rw [callsFrom_drop hi] at hJ
    have z0:¬0=n:=by omega
    have z1:¬1=n:=by omega
    have z4:¬4=n:=by omega
    have y0:¬0=n+1:=by omega
    have y1:¬1=n+1:=by omega
    have y4:¬4=n+1:=by omega
    have x0:¬0=n+1+1:=by omega
    have x1:¬1=n+1+1:=by omega
    have x4:¬4=n+1+1:=by omega
    have v0:¬n+1=n+1+1:=by omega
    have v1:¬n+1+1=n+1:=by omega
    have v4:¬n+1=n:=by omega
    have q0:¬n=0:=by omega
    have q1:¬n=1:=by omega
    have q3:¬n=3:=by omega
    have q4:¬n=4:=by omega
    refine rC_seqI (rC_cut [2,3,5,7] (fun s=>s 44 = .bool true) (by simp [hk,s7,hi,e1,rARule]) ?_)
    intro st1 hk1 s44
    simp at hk1
    refine rC_pass1 s44 (rC_seqI (rC_blkI ?_))
    refine rC_cutH [2,3,5,7] (fun s h' n'=>4<n'∧s 58 = .bool (!callB p r.Calls[i] (scopeOf p r i))∧h' 0=some ⟨true,2,[rAProgram p]⟩∧h' 1=some ⟨true,7,[rARule r]⟩∧h' 4=some ⟨true,4,[[.str G.Name,.ref 2 0 G.Params.length,.bool G.ListResult,.ref 3 0 G.Pre.length]]⟩) ?_ ?_
    · simp [hk,hk1,s7,hi,hg,e0,e1,e4,rAProgram,rARule,z0,z1,z4,y0,y1,y4,x0,x1,x4,v0,v1,v4,q0,q1,q3,q4]
      first | refine callD_of (ks_ScopeOf p r i hp hr) (by simp [rAProgram,rARule]) ?_ | refine call_of (ks_ScopeOf p r i hp hr) (by simp [rAProgram,rARule]) ?_ | refine callD_of (ks_ScopeOf p r i hp hr) rfl ?_ | refine call_of (ks_ScopeOf p r i hp hr) rfl ?_
      rintro r rfl
      simp [hk,hk1,s7,hi,e0,e1,e4,rAProgram,rARule,z0,z1,z4,y0,y1,y4,x0,x1,x4,v0,v1,v4,q0,q1,q3,q4]
      first | refine callD_of (ks_l10Call p (r.Calls[i]'hi) (scopeOf p r i) hp (wc _ (List.getElem_mem hi))) (by simp [rAProgram,z0,z1,z4,y0,y1,y4,x0,x1,x4,v0,v1,v4,q0,q1,q3,q4]) ?_ | refine call_of (ks_l10Call p (r.Calls[i]'hi) (scopeOf p r i) hp (wc _ (List.getElem_mem hi))) (by simp [rAProgram,z0,z1,z4,y0,y1,y4,x0,x1,x4,v0,v1,v4,q0,q1,q3,q4]) ?_ | refine callD_of (ks_l10Call p (r.Calls[i]'hi) (scopeOf p r i) hp (wc _ (List.getElem_mem hi))) rfl ?_ | refine call_of (ks_l10Call p (r.Calls[i]'hi) (scopeOf p r i) hp (wc _ (List.getElem_mem hi))) rfl ?_
      rintro r rfl
      simp [e0,e1,e4,rAProgram,rARule,z0,z1,z4,y0,y1,y4,x0,x1,x4,v0,v1,v4,q0,q1,q3,q4]
      omega
    rintro st3 h3' n3 hk3 ⟨hn3,s58,e0'',e1'',e4''⟩
    simp at hk3
    generalize callB p r.Calls[i] (scopeOf p r i)=D at *
    cases D
    · rw [Bool.false_and] at hJ
      subst hJ
      simp [s58]
      refine hret _ _ _ ?_
      simp
    · rw [Bool.true_and] at hJ
      simp [hk,hk1,hk3,s58,s7,hw]
      exact hR _ _ _ (by simp [hk,hk1,hk3]) (by simp) ⟨hn3,e0'',e1'',e4'',hJ⟩
  rintro st h n R hk s7 ⟨hn,e0,e1,e4,hJ⟩ hret hX
  simp at hk
  rw [List.drop_eq_nil_of_le (by omega)] at hJ
  refine rC_seqI (rC_cut [2,3,5] (fun s=>s 44 = .bool false) (by simp [hk,s7,e1,rARule]) ?_)
  intro st1 hk1 s44
  simp at hk1
  refine rC_stop1 s44 ?_
  refine hX _ _ _ _ ?_
  simp [callsFrom] at hJ
  subst hJ
  clear hX hret hB2
  have z0:¬0=n:=by omega
  have z1:¬1=n:=by omega
  have z4:¬4=n:=by omega
  have y0:¬0=n+1:=by omega
  have y1:¬1=n+1:=by omega
  have y4:¬4=n+1:=by omega
  have x0:¬0=n+1+1:=by omega
  have x1:¬1=n+1+1:=by omega
  have x4:¬4=n+1+1:=by omega
  have v0:¬n+1=n+1+1:=by omega
  have v1:¬n+1+1=n+1:=by omega
  have v4:¬n+1=n:=by omega
  have q0:¬n=0:=by omega
  have q1:¬n=1:=by omega
  have q3:¬n=3:=by omega
  have q4:¬n=4:=by omega
  simp [hk,hk1,e0,e1,rARule,rAProgram]
  intro _
  first | refine callD_of (ks_ScopeOf p r r.Calls.length hp hr) (by simp [rAProgram,rARule]) ?_ | refine call_of (ks_ScopeOf p r r.Calls.length hp hr) (by simp [rAProgram,rARule]) ?_ | refine callD_of (ks_ScopeOf p r r.Calls.length hp hr) rfl ?_ | refine call_of (ks_ScopeOf p r r.Calls.length hp hr) rfl ?_
  rintro r rfl
  simp [hk,hk1,e0,e1,e4,rARule,rAProgram,z0,z1,z4,y0,y1,y4,x0,x1,x4,v0,v1,v4,q0,q1,q3,q4]
  first | refine callD_of (ks_l10Arg r.Result G.ListResult (scopeOf p r r.Calls.length) wa) (by simp [rAArg,z0,z1,z4,y0,y1,y4,x0,x1,x4,v0,v1,v4,q0,q1,q3,q4]) ?_ | refine call_of (ks_l10Arg r.Result G.ListResult (scopeOf p r r.Calls.length) wa) (by simp [rAArg,z0,z1,z4,y0,y1,y4,x0,x1,x4,v0,v1,v4,q0,q1,q3,q4]) ?_ | refine callD_of (ks_l10Arg r.Result G.ListResult (scopeOf p r r.Calls.length) wa) rfl ?_ | refine call_of (ks_l10Arg r.Result G.ListResult (scopeOf p r r.Calls.length) wa) rfl ?_
  rintro r rfl
  cases g1:argOk r.Result G.ListResult (scopeOf p r r.Calls.length)
  · simp
  simp [z0,z1,z4,y0,y1,y4,x0,x1,x4,v0,v1,v4,q0,q1,q3,q4]
  first | refine callD_of (ks_AllDistinct (scopeOf p r r.Calls.length)) (by simp [z0,z1,z4,y0,y1,y4,x0,x1,x4,v0,v1,v4,q0,q1,q3,q4]) ?_ | refine call_of (ks_AllDistinct (scopeOf p r r.Calls.length)) (by simp [z0,z1,z4,y0,y1,y4,x0,x1,x4,v0,v1,v4,q0,q1,q3,q4]) ?_ | refine callD_of (ks_AllDistinct (scopeOf p r r.Calls.length)) rfl ?_ | refine call_of (ks_AllDistinct (scopeOf p r r.Calls.length)) rfl ?_
  rintro r rfl
  simp
end Go.Proofs.YtilcageplifbgaaGreat

namespace Go.Proofs.YtilcageplifbgaaGreat
set_option linter.all false
open Go Go.RowKit Go.Proofs
theorem a156_ok:compFn Tryz.prog Tryz.f156=some (tContainsFunc 223):=by kernel_rfl
theorem a223_ok:compFn Tryz.prog Tryz.f223=some (tIndexFunc true 7):=by kernel_rfl
def a205:AFn:=
⟨18,[(.t 2)],(.seq
 (.reg [⟨some 2,(.mv (.k (.bool false))),no⟩]) (.seq (.seq
 (.reg [⟨some 3,(.mv (.k (.int .i64 0))),no⟩]) (.blk 0 (.loop (.seq (.seq
 (.reg [⟨some 4,(.mv (.t 3)),no⟩,⟨some 5,(.mv (.t 0)),no⟩,⟨some 6,(.len false (.t 5)),no⟩,⟨some 7,(.bin .lss (.t 4) (.t 6)),no⟩]) (.cond (.t 7) .skip (.exit 0))) (.seq (.blk 1 (.seq
 (.reg [⟨some 10,(.mv (.t 0)),no⟩,⟨some 11,(.mv (.t 3)),no⟩,⟨some 12,(.ixa 1 (.t 10) (.t 11)),no⟩,⟨some 13,(.ld false 1 (.t 12)),no⟩,⟨some 14,(.call (.k (.fn (.func 212) [] [])) [(.t 13)]),no⟩,⟨some 15,(.un .not (.t 14)),no⟩]) (.cond (.t 15) (.seq
 (.reg [⟨some 2,(.mv (.k (.bool false))),no⟩]) .ret) .skip)))
 (.reg [⟨some 8,(.mv (.t 3)),no⟩,⟨some 9,(.bin .add (.t 8) (.k (.int .i64 1))),no⟩,⟨some 3,(.mv (.t 9)),no⟩])))))) (.seq
 (.reg [⟨some 16,(.mv (.t 0)),no⟩,⟨some 17,(.call (.k (.fn (.func 206) [] [])) [(.t 16)]),no⟩,⟨some 2,(.mv (.t 17)),no⟩]) .ret)))⟩
theorem a205_ok:compFn Tryz.prog Tryz.f205=some a205:=by kernel_rfl
def a151:AFn:=
⟨6,[(.t 2)],(.seq
 (.reg [⟨some 2,(.mv (.k (.bool false))),no⟩]) (.seq
 (.reg [⟨some 3,(.mv (.t 0)),no⟩,⟨some 4,(.call (.k (.fn (.func 152) [] [])) [(.t 3)]),no⟩,⟨some 5,(.un .not (.t 4)),no⟩,⟨some 2,(.mv (.t 5)),no⟩]) .ret))⟩
theorem a151_ok:compFn Tryz.prog Tryz.f151=some a151:=by kernel_rfl
def a154:AFn:=
⟨10,[(.t 3)],(.seq
 (.reg [⟨some 2,(.boxv (.t 0)),no⟩,⟨some 3,(.mv (.k (.bool false))),no⟩]) (.seq
 (.reg [⟨some 4,(.ld true 2 (.t 2)),no⟩,⟨some 5,(.fld 1 (.t 1)),no⟩,⟨some 6,(.ld false 1 (.t 5)),no⟩,⟨some 7,(.len false (.t 6)),no⟩,⟨some 8,(.call (.k (.fn (.func 155) [] [])) [(.t 4),(.t 7)]),no⟩,⟨some 9,(.un .not (.t 8)),no⟩,⟨some 3,(.mv (.t 9)),no⟩]) .ret))⟩
theorem a154_ok:compFn Tryz.prog Tryz.f154=some a154:=by kernel_rfl
def a157:AFn:=
⟨8,[(.t 3)],(.seq
 (.reg [⟨some 2,(.boxv (.t 0)),no⟩,⟨some 3,(.mv (.k (.bool false))),no⟩]) (.seq
 (.reg [⟨some 4,(.ld true 2 (.t 1)),no⟩,⟨some 5,(.ld true 7 (.t 2)),no⟩,⟨some 6,(.call (.k (.fn (.func 158) [] [])) [(.t 4),(.t 5)]),no⟩,⟨some 7,(.un .not (.t 6)),no⟩,⟨some 3,(.mv (.t 7)),no⟩]) .ret))⟩
theorem a157_ok:compFn Tryz.prog Tryz.f157=some a157:=by kernel_rfl
def a63:AFn:=
⟨69,[(.t 2)],(.seq
 (.reg [⟨some 1,(.boxv (.t 0)),no⟩,⟨some 2,(.mv (.k (.bool false))),no⟩]) (.seq (.seq
 (.reg [⟨some 5,(.fld 0 (.t 1)),no⟩,⟨some 6,(.ld false 1 (.t 5)),no⟩,⟨some 7,(.len false (.t 6)),no⟩,⟨some 8,(.call (.k (.fn (.func 98) [] [])) [(.t 7),(.k (.int .i64 1)),(.k (.int .i64 3))]),no⟩,⟨some 9,(.un .not (.t 8)),no⟩,⟨some 10,(.mv (.t 9)),no⟩,⟨some 11,(.fld 1 (.t 1)),(some (10,false))⟩,⟨some 12,(.ld false 1 (.t 11)),(some (10,false))⟩,⟨some 13,(.len false (.t 12)),(some (10,false))⟩,⟨some 14,(.bin .gtr (.t 13) (.k (.int .i64 8))),(some (10,false))⟩,⟨some 15,(.pick (.t 10) (.k (.bool true)) (.t 14)),no⟩]) (.cond (.t 15) (.seq
 (.reg [⟨some 2,(.mv (.k (.bool false))),no⟩]) .ret) .skip)) (.seq (.seq
 (.reg [⟨some 16,(.fld 0 (.t 1)),no⟩,⟨some 17,(.ld false 1 (.t 16)),no⟩,⟨some 18,(.len false (.t 17)),no⟩,⟨some 19,(.mv (.k (.int .i64 0))),no⟩]) (.blk 0 (.loop (.seq
 (.reg [⟨some 20,(.bin .lss (.t 19) (.t 18)),no⟩]) (.seq (.cond (.t 20) .skip (.exit 0)) (.seq (.blk 1 (.seq
 (.reg [⟨some 21,(.mv (.t 19)),no⟩,⟨some 22,(.ixa 4 (.t 17) (.t 19)),no⟩,⟨some 23,(.ld true 4 (.t 22)),no⟩,⟨some 4,(.box [(.str []),(.nil 1),(.bool false),(.nil 2)]),no⟩,⟨some 3,(.mv (.t 21)),no⟩,⟨no,(.st 4 (.t 4) (.t 23)),no⟩]) (.seq (.seq
 (.reg [⟨some 24,(.fld 0 (.t 4)),no⟩,⟨some 25,(.ld false 1 (.t 24)),no⟩,⟨some 26,(.call (.k (.fn (.func 149) [] [])) [(.t 25)]),no⟩,⟨some 27,(.un .not (.t 26)),no⟩,⟨some 28,(.mv (.t 27)),no⟩,⟨some 29,(.ld true 2 (.t 1)),(some (28,false))⟩,⟨some 30,(.fld 0 (.t 4)),(some (28,false))⟩,⟨some 31,(.ld false 1 (.t 30)),(some (28,false))⟩,⟨some 32,(.call (.k (.fn (.func 89) [] [])) [(.t 29),(.t 31)]),(some (28,false))⟩,⟨some 33,(.mv (.t 3)),(some (28,false))⟩,⟨some 34,(.bin .neq (.t 32) (.t 33)),(some (28,false))⟩,⟨some 35,(.pick (.t 28) (.k (.bool true)) (.t 34)),no⟩,⟨some 36,(.mv (.t 35)),no⟩,⟨some 37,(.fld 1 (.t 4)),(some (36,false))⟩,⟨some 38,(.ld false 1 (.t 37)),(some (36,false))⟩,⟨some 39,(.len false (.t 38)),(some (36,false))⟩,⟨some 40,(.bin .gtr (.t 39) (.k (.int .i64 2))),(some (36,false))⟩,⟨some 41,(.pick (.t 36) (.k (.bool true)) (.t 40)),no⟩,⟨some 42,(.mv (.t 41)),no⟩,⟨some 43,(.fld 1 (.t 4)),(some (42,false))⟩,⟨some 44,(.ld false 1 (.t 43)),(some (42,false))⟩,⟨some 45,(.call (.k (.fn (.func 150) [] [])) [(.t 44)]),(some (42,false))⟩,⟨some 46,(.un .not (.t 45)),(some (42,false))⟩,⟨some 47,(.pick (.t 42) (.k (.bool true)) (.t 46)),no⟩,⟨some 48,(.mv (.t 47)),no⟩,⟨some 49,(.fld 3 (.t 4)),(some (48,false))⟩,⟨some 50,(.ld false 1 (.t 49)),(some (48,false))⟩,⟨some 51,(.len false (.t 50)),(some (48,false))⟩,⟨some 52,(.bin .gtr (.t 51) (.k (.int .i64 2))),(some (48,false))⟩,⟨some 53,(.pick (.t 48) (.k (.bool true)) (.t 52)),no⟩]) (.cond (.t 53) (.seq
 (.reg [⟨some 2,(.mv (.k (.bool false))),no⟩]) .ret) .skip)) (.seq
 (.reg [⟨some 54,(.fld 1 (.t 4)),no⟩,⟨some 55,(.ld false 1 (.t 54)),no⟩,⟨some 56,(.call (.k (.fn (.func 78) [] [])) [(.t 55),(.k (.fn (.func 151) [] []))]),no⟩,⟨some 57,(.mv (.t 56)),no⟩,⟨some 58,(.fld 3 (.t 4)),(some (57,false))⟩,⟨some 59,(.ld false 1 (.t 58)),(some (57,false))⟩,⟨some 60,(.mkf (.func 154) [] [(.t 4)]),(some (57,false))⟩,⟨some 61,(.call (.k (.fn (.func 153) [] [])) [(.t 59),(.t 60)]),(some (57,false))⟩,⟨some 62,(.pick (.t 57) (.k (.bool true)) (.t 61)),no⟩]) (.cond (.t 62) (.seq
 (.reg [⟨some 2,(.mv (.k (.bool false))),no⟩]) .ret) .skip)))))
 (.reg [⟨some 63,(.bin .add (.t 19) (.k (.int .i64 1))),no⟩,⟨some 19,(.mv (.t 63)),no⟩]))))))) (.seq
 (.reg [⟨some 64,(.fld 1 (.t 1)),no⟩,⟨some 65,(.ld false 1 (.t 64)),no⟩,⟨some 66,(.mkf (.func 157) [] [(.t 1)]),no⟩,⟨some 67,(.call (.k (.fn (.func 156) [] [])) [(.t 65),(.t 66)]),no⟩,⟨some 68,(.un .not (.t 67)),no⟩,⟨some 2,(.mv (.t 68)),no⟩]) .ret))))⟩
theorem a63_ok:compFn Tryz.prog Tryz.f63=some a63:=by kernel_rfl
theorem ks_l5Names (l:List Str):Holds Tryz.prog 205 [.sl 1 (strsR l)] (fun r=>r = .bool (l.all okName&&distB l)):=by
  refine holds_of_lim Tryz.func205 rfl rfl fun hl => ?_
  simp at hl
  refine holds_of_run Tryz.func205 a205_ok rfl (by simp [a205]) ?_
  simp [a205]
  generalize hB:l.all okName=B
  refine rL_forS [0] 3 l.length (fun i _=>(l.drop i).all okName=B) hl (by simp) (by simpa using hB) ?_ ?_
  · rintro i st h R hi hg hk s3 hw hJ hh hR hret _
    simp at hk
    rw [List.drop_eq_getElem_cons hi,List.all_cons] at hJ
    simp [hk,s3,hi,hg]
    intro _
    first | refine callD_of (ks_IsValidName (l[i]'hi)) (by simp) ?_ | refine call_of (ks_IsValidName (l[i]'hi)) (by simp) ?_ | refine callD_of (ks_IsValidName (l[i]'hi)) rfl ?_ | refine call_of (ks_IsValidName (l[i]'hi)) rfl ?_
    rintro r rfl
    cases hc:okName l[i]
    · rw [hc,Bool.false_and] at hJ
      subst hJ
      simp
      refine hret _ _ _ ?_
      simp
    · rw [hc,Bool.true_and] at hJ
      simp [hk,s3,hw]
      exact hR _ (by simp [hk]) (by simp) hJ
  · rintro st h R hk s3 hJ hh _ hX
    simp at hk
    rw [List.drop_eq_nil_of_le (by omega)] at hJ
    simp at hJ
    subst hJ
    simp [hk,s3]
    intro _
    refine hX _ _ ?_
    simp [hk]
    first | refine callD_of (ks_AllDistinct l) (by simp) ?_ | refine call_of (ks_AllDistinct l) (by simp) ?_ | refine callD_of (ks_AllDistinct l) rfl ?_ | refine call_of (ks_AllDistinct l) rfl ?_
    rintro r rfl
    simp
theorem k_VP1 (s:Str):Holds Tryz.prog 151 [.str s] (fun r=>r = .bool (!okName s)):=by
  refine holds_of_run Tryz.func151 a151_ok rfl (by simp [a151]) ?_
  simp [a151]
  first | refine callD_of (k_IsValidName s) (by simp) ?_ | refine call_of (k_IsValidName s) (by simp) ?_ | refine callD_of (k_IsValidName s) rfl ?_ | refine call_of (k_IsValidName s) rfl ?_
  rintro r rfl
  simp
theorem pure_VP2 {h:Heap} {n id:Nat} {f:DFunction} (x:DLin) (hv:h id=some ⟨true,4,[rAFunction f]⟩) (hid:id<n):Pure1 Tryz.prog 154 [] [.ptr id 0 0] h n (.agg (rALin x)) (.bool (!okLin x f.Params.length)):=by
  intro K hK
  refine acall_gc ?_
  refine acall_body Tryz.func154 a154_ok rfl (by simp [a154]) ?_
  have n1:¬id=n:=by omega
  simp [a154,hv,n1,rALin,rAFunction]
  intro _
  first | refine callD_of (k_IsValidLin x f.Params.length) (by simp [rALin]) ?_ | refine call_of (k_IsValidLin x f.Params.length) (by simp [rALin]) ?_ | refine callD_of (k_IsValidLin x f.Params.length) rfl ?_ | refine call_of (k_IsValidLin x f.Params.length) rfl ?_
  rintro r rfl
  simp [scal,hK]
  intro j hj hj'
  omega
theorem pure_VP3 {h:Heap} {n id:Nat} {p:DProgram} (x:DRule) (hp:wProgram p≤1048576) (hx:wRule x≤1048576) (hv:h id=some ⟨true,2,[rAProgram p]⟩) (hid:id<n):Pure1 Tryz.prog 157 [] [.ptr id 0 0] h n (.agg (rARule x)) (.bool (!ruleOk p x)):=by
  intro K hK
  refine acall_gc ?_
  refine acall_body Tryz.func157 a157_ok rfl (by simp [a157]) ?_
  have n1:¬id=n:=by omega
  simp [a157,hv,n1,rARule,rAProgram]
  first | refine callD_of (k_IsValidRule p x hp hx) (by simp [rARule,rAProgram]) ?_ | refine call_of (k_IsValidRule p x hp hx) (by simp [rARule,rAProgram]) ?_ | refine callD_of (k_IsValidRule p x hp hx) rfl ?_ | refine call_of (k_IsValidRule p x hp hx) rfl ?_
  rintro r rfl
  simp [scal,hK]
  intro j hj hj'
  omega
theorem wRule_of {p:DProgram} (hp:wProgram p≤1048576):∀ r∈p.Rules,wRule r≤1048576:=fun r hr=>by
  have:=wL_mem (w:=wRule) hr
  unfold wProgram wRuleS at hp
  omega
theorem fnsFrom_drop {met:List Str} {l:List DFunction} {i:Nat} (hi:i<l.length):fnsFrom met (l.drop i)=((fnOk l[i] && !hasS met (l[i]).Name)&&fnsFrom (met++[(l[i]).Name]) (l.drop (i+1))):=by
  rw [List.drop_eq_getElem_cons hi]; rfl
def namN (l:List DFunction) (i:Nat):List Str:=(l.take i).map (·.Name)
theorem namN_succ {l:List DFunction} {i:Nat} (hi:i<l.length):namN l (i+1)=namN l i++[(l[i]).Name]:=by unfold namN; rw [List.take_succ_eq_append_getElem hi,List.map_append]; rfl
set_option maxRecDepth 20000 in
set_option maxHeartbeats 2000000 in
theorem k_IsValidProgram (p:DProgram) (hp:wProgram p≤1048576):Holds Tryz.prog 63 [.agg (rAProgram p)] (fun x=>x = .bool (progOk p)):=by
  have hlf:p.Functions.length≤1048576:=by have:=wL_len wFunction p.Functions; unfold wProgram wFunctionS at hp; omega
  refine holds_of_run Tryz.func63 a63_ok rfl (by simp [a63]) ?_
  simp [a63,rAProgram]
  intro _
  first | refine callD_of (k_within p.Functions.length 1 3) (by simp) ?_ | refine call_of (k_within p.Functions.length 1 3) (by simp) ?_ | refine callD_of (k_within p.Functions.length 1 3) rfl ?_ | refine call_of (k_within p.Functions.length 1 3) rfl ?_
  rintro r rfl
  unfold progOk
  cases h1:inR p.Functions.length 1 3
  · simp
  simp
  intro _
  have hdg:decide (p.Rules.length≤8)=decide ((p.Rules.length:Int)≤8):=by rw [decide_eq_decide]; omega
  by_cases h2:(p.Rules.length:Int)≤8
  case neg=>
    have h2n:¬p.Rules.length≤8:=by omega
    simp [h2,h2n,Int.not_le.1 h2]
  have h2n:p.Rules.length≤8:=by omega
  simp [h2,h2n,Int.not_lt.2 h2]
  intro _
  generalize hB:fnsFrom [] p.Functions=B
  refine rL_forO [1,17,18] 19 p.Functions.length (fun i s h n=>0<n∧h 0=some ⟨true,2,[rAProgram p]⟩∧fnsFrom (namN p.Functions i) (p.Functions.drop i)=B) (by unfold LIM; omega) (by simp) ⟨by simp,by simp [rAProgram],by simpa [namN] using hB⟩ ?_ ?_
  · rintro i st h n R hi hg hk s19 hw ⟨hn,e0,hJ⟩ hR hret _
    simp at hk
    rw [fnsFrom_drop hi,←namN_succ hi] at hJ
    have z0:¬0=n:=by omega
    have z1:¬n=0:=by omega
    refine rC_cut [1,17,18,19] (fun s=>s 20 = .bool true) (by simp [hk,s19,hi]) ?_
    intro st1 hk1 s20
    simp at hk1
    refine rC_pass s20 (rC_seqI (rC_blkI ?_))
    refine rC_cutH [1,17,18,19] (fun s h' n'=>s 3 = .int .i64 i∧s 4 = .ptr n 0 0∧n'=n+1∧h' n=some ⟨true,4,[rAFunction p.Functions[i]]⟩∧h' 0=some ⟨true,2,[rAProgram p]⟩) (by simp [hk,hk1,s19,hi,rAFunction,e0,z0,z1]) ?_
    rintro st2 h2' n2 hk2 ⟨s3,s4,rfl,en,e0'⟩
    simp at hk2
    generalize hf:p.Functions[i]=f at *
    refine rC_seqI (rC_cut [1,3,4,17,18,19] (fun s=>s 53 = .bool (!intName f.Name||hasS (namN p.Functions i) f.Name || !decide (f.Params.length≤2) || !distB f.Params || !decide (f.Pre.length≤2))) ?_ ?_)
    · have hdp:decide (f.Params.length≤2)=decide ((f.Params.length:Int)≤2):=by rw [decide_eq_decide]; omega
      have hdq:decide (f.Pre.length≤2)=decide ((f.Pre.length:Int)≤2):=by rw [decide_eq_decide]; omega
      rw [hdp,hdq]
      simp [hk,hk1,hk2,s4,s3,en,e0',rAFunction,z0,z1]
      first | refine callD_of (k_isIntName f.Name) (by simp) ?_ | refine call_of (k_isIntName f.Name) (by simp) ?_ | refine callD_of (k_isIntName f.Name) rfl ?_ | refine call_of (k_isIntName f.Name) rfl ?_
      rintro r rfl
      cases g1:intName f.Name
      · simp
      simp [hk,hk1,hk2,s4,s3,en,e0',rAFunction,rAProgram,z0,z1]
      first | refine callD_of (k_functionAt p f.Name) (by simp [rAProgram]) ?_ | refine call_of (k_functionAt p f.Name) (by simp [rAProgram]) ?_ | refine callD_of (k_functionAt p f.Name) rfl ?_ | refine call_of (k_functionAt p f.Name) rfl ?_
      rintro r rfl
      have hidx:=idx_first hi
      rw [hf] at hidx
      rw [show List.map (·.Name) (List.take i p.Functions)=namN p.Functions i from rfl] at hidx
      generalize idxFrom (fun g=>g.Name==f.Name) p.Functions 0=k1 at hidx
      cases g2:hasS (namN p.Functions i) f.Name
      case true=>
        rw [g2] at hidx
        have hk1n:¬k1=(i:Int):=by simpa using hidx
        simp [hk1n,s3]
      rw [g2] at hidx
      have hk1n:k1=(i:Int):=by simpa using hidx
      subst hk1n
      simp [hk,hk1,hk2,s4,s3,en,e0',rAFunction,rAProgram,z0,z1]
      intro _
      by_cases g3:(f.Params.length:Int)≤2
      case neg=>simp [g3,Int.not_le.1 g3]
      simp [g3,Int.not_lt.2 g3,hk,hk1,hk2,s4,s3,en,e0',rAFunction,rAProgram,z0,z1]
      first | refine callD_of (k_AllDistinct f.Params) (by simp) ?_ | refine call_of (k_AllDistinct f.Params) (by simp) ?_ | refine callD_of (k_AllDistinct f.Params) rfl ?_ | refine call_of (k_AllDistinct f.Params) rfl ?_
      rintro r rfl
      cases g4:distB f.Params
      · simp
      simp [hk,hk1,hk2,s4,s3,en,e0',rAFunction,rAProgram,z0,z1]
      intro _
      by_cases g5:(f.Pre.length:Int)≤2
      · simp [g5,Int.not_lt.2 g5]
      · simp [g5,Int.not_le.1 g5]
    intro st3 hk3 s53
    simp at hk3
    generalize hcc:(!intName f.Name||hasS (namN p.Functions i) f.Name || !decide (f.Params.length≤2) || !distB f.Params || !decide (f.Pre.length≤2))=cc at *
    have hbody:(fnOk f && !hasS (namN p.Functions i) f.Name)=(!cc&&(f.Params.all okName&&f.Pre.all fun l=>okLin l f.Params.length)):=by
      rw [←hcc]
      unfold fnOk
      cases intName f.Name <;> cases hasS (namN p.Functions i) f.Name <;> cases decide (f.Params.length≤2) <;> cases distB f.Params <;> cases decide (f.Pre.length≤2) <;> cases f.Params.all okName <;> simp
    rw [hbody] at hJ
    clear hbody hcc
    cases cc
    case true=>
      simp at hJ
      simp [s53]
      refine hret _ _ _ ?_
      simp [hJ]
    refine rC_condF s53 ?_
    simp only [kont_seq]
    simp only [Bool.not_false,Bool.true_and] at hJ
    refine rC_cut [1,3,4,17,18,19] (fun s=>s 62 = .bool (!(f.Params.all okName&&f.Pre.all fun l=>okLin l f.Params.length))) ?_ ?_
    · simp [hk,hk1,hk2,hk3,s4,s3,en,e0',rAFunction,z0,z1]
      refine acall_tContainsFunc (p:=fun s => !okName s) (rowOf:=fun s=>[.str s]) (eltOf:=fun s => .str s) Tryz.func78 a78_ok rfl Tryz.func167 a167_ok rfl (fun x=>by simp) f.Params
        (fun s _=>pure1_of_holds (k_VP1 s) rfl rfl) ?_
      rw [any_not]
      cases g1:f.Params.all okName
      · simp
      simp [hk,hk1,hk2,hk3,s4,s3,en,e0',rAFunction,z0,z1]
      refine acall_tContainsFunc (p:=fun l => !okLin l f.Params.length) (rowOf:=rALin) (eltOf:=fun l => .agg (rALin l)) Tryz.func153 a153_ok rfl Tryz.func220 a220_ok rfl (fun x=>by simp) f.Pre
        (fun x _=>pure_VP2 (f:=f) x en (Nat.lt_succ_self n)) ?_
      rw [any_not]
      simp
    intro st4 hk4 s62
    simp at hk4
    generalize (f.Params.all okName&&f.Pre.all fun l=>okLin l f.Params.length)=D at *
    cases D
    · rw [Bool.false_and] at hJ
      subst hJ
      simp [s62]
      refine hret _ _ _ ?_
      simp
    · rw [Bool.true_and] at hJ
      simp [hk,hk1,hk2,hk3,hk4,s62,s19,hw]
      exact hR _ _ _ (by simp [hk,hk1,hk2,hk3,hk4]) (by simp) ⟨by omega,e0',hJ⟩
  rintro st h n R hk s19 ⟨hn,e0,hJ⟩ hret hX
  simp at hk
  rw [List.drop_eq_nil_of_le (by omega)] at hJ
  refine rC_cut [1] (fun s=>s 20 = .bool false) (by simp [hk,s19]) ?_
  intro st1 hk1 s20
  simp at hk1
  refine rC_stop s20 ?_
  refine hX _ _ _ _ ?_
  simp [fnsFrom] at hJ
  subst hJ
  clear hX hret hB
  simp [hk,hk1,e0,rAProgram]
  refine acall_tContainsFunc (p:=fun r => !ruleOk p r) (rowOf:=rARule) (eltOf:=fun r => .agg (rARule r)) Tryz.func156 a156_ok rfl Tryz.func223 a223_ok rfl (fun x=>by simp) p.Rules
    (fun x hx=>pure_VP3 x hp (wRule_of hp x hx) e0 hn) ?_
  rw [any_not]
  simp
end Go.Proofs.YtilcageplifbgaaGreat
