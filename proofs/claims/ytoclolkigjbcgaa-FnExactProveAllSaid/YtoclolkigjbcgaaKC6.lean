/- Contracts: certificates, checked one by one and all. -/
import Derived.Test.YtoclolkigjbcgaaKC1
import Derived.Test.YtoclolkigjbcgaaKT1
namespace Go.Proofs.Ytoclolkigjbcgaa
set_option linter.all false
open Go Go.RowKit Go.Proofs
def a37:AFn:=
⟨66,[.t 6],(.seq
 (.reg [⟨some 3,.boxv (.t 0),no⟩,⟨some 4,.boxv (.t 1),no⟩,⟨some 5,.boxv (.t 2),no⟩,⟨some 6,.mv (.k (.bool false)),no⟩]) (.seq (.seq
 (.reg [⟨some 13,.ld true 2 (.t 3),no⟩,⟨some 14,.call (.k (.fn (.func 32) [] [])) [.t 13],no⟩,⟨some 15,.un .not (.t 14),no⟩,⟨some 16,.mv (.t 15),no⟩,⟨some 17,.ld true 2 (.t 4),(some (16,false))⟩,⟨some 18,.fld 0 (.t 3),(some (16,false))⟩,⟨some 19,.ld false 1 (.t 18),(some (16,false))⟩,⟨some 20,.call (.k (.fn (.func 33) [] [])) [.t 17,.t 19],(some (16,false))⟩,⟨some 21,.un .not (.t 20),(some (16,false))⟩,⟨some 22,.pick (.t 16) (.k (.bool true)) (.t 21),no⟩,⟨some 23,.mv (.t 22),no⟩,⟨some 24,.fld 0 (.t 5),(some (23,false))⟩,⟨some 25,.ld false 1 (.t 24),(some (23,false))⟩,⟨some 26,.call (.k (.fn (.func 51) [] [])) [.t 25,(.k (.int .i64 0)),(.k (.int .i64 1000000000))],(some (23,false))⟩,⟨some 27,.un .not (.t 26),(some (23,false))⟩,⟨some 28,.pick (.t 23) (.k (.bool true)) (.t 27),no⟩]) (.cond (.t 28) (.seq
 (.reg [⟨some 6,.mv (.k (.bool false)),no⟩]) .ret) .skip)) (.seq
 (.reg [⟨some 30,.ld true 2 (.t 3),no⟩,⟨some 31,.fld 1 (.t 5),no⟩,⟨some 32,.ld false 1 (.t 31),no⟩,⟨some 33,.call (.k (.fn (.func 58) [] [])) [.t 30,.t 32],no⟩,⟨some 29,.mv (.t 33),no⟩,⟨some 34,.ext (.t 29) 0,no⟩,⟨some 35,.ext (.t 29) 1,no⟩,⟨some 7,.box [(.int .i64 0),(.nil 1)],no⟩,⟨no,.st 2 (.t 7) (.t 34),no⟩,⟨some 8,.mv (.t 35),no⟩]) (.seq
 (.reg [⟨some 37,.ld true 2 (.t 4),no⟩,⟨some 38,.call (.k (.fn (.func 59) [] [])) [.t 37,(.k (.int .i64 1))],no⟩,⟨some 36,.mv (.t 38),no⟩,⟨some 39,.ext (.t 36) 0,no⟩,⟨some 40,.ext (.t 36) 1,no⟩,⟨some 9,.box [(.int .i64 0),(.nil 1)],no⟩,⟨no,.st 2 (.t 9) (.t 39),no⟩,⟨some 10,.mv (.t 40),no⟩]) (.seq (.seq
 (.reg [⟨some 41,.mv (.t 8),no⟩,⟨some 42,.un .not (.t 41),no⟩,⟨some 43,.mv (.t 42),no⟩,⟨some 44,.mv (.t 10),(some (43,false))⟩,⟨some 45,.un .not (.t 44),(some (43,false))⟩,⟨some 46,.pick (.t 43) (.k (.bool true)) (.t 45),no⟩]) (.cond (.t 46) (.seq
 (.reg [⟨some 6,.mv (.k (.bool false)),no⟩]) .ret) .skip)) (.seq
 (.reg [⟨some 48,.ld true 2 (.t 7),no⟩,⟨some 49,.fld 0 (.t 5),no⟩,⟨some 50,.ld false 1 (.t 49),no⟩,⟨some 51,.un .neg (.t 50),no⟩,⟨some 52,.ld true 2 (.t 9),no⟩,⟨some 53,.call (.k (.fn (.func 34) [] [])) [.t 48,.t 51,.t 52],no⟩,⟨some 47,.mv (.t 53),no⟩,⟨some 54,.ext (.t 47) 0,no⟩,⟨some 55,.ext (.t 47) 1,no⟩,⟨some 11,.box [(.int .i64 0),(.nil 1)],no⟩,⟨no,.st 2 (.t 11) (.t 54),no⟩,⟨some 12,.mv (.t 55),no⟩]) (.seq
 (.reg [⟨some 56,.mv (.t 12),no⟩,⟨some 57,.mv (.t 56),no⟩,⟨some 58,.ld true 2 (.t 11),(some (57,true))⟩,⟨some 59,.call (.k (.fn (.func 60) [] [])) [.t 58],(some (57,true))⟩,⟨some 60,.pick (.t 57) (.t 59) (.k (.bool false)),no⟩,⟨some 61,.mv (.t 60),no⟩,⟨some 62,.fld 0 (.t 11),(some (61,true))⟩,⟨some 63,.ld false 1 (.t 62),(some (61,true))⟩,⟨some 64,.bin .lss (.t 63) (.k (.int .i64 0)),(some (61,true))⟩,⟨some 65,.pick (.t 61) (.t 64) (.k (.bool false)),no⟩,⟨some 6,.mv (.t 65),no⟩]) .ret)))))))⟩
theorem a37_ok:compFn Try.prog Try.f37=some a37:=by kernel_rfl
def a29:AFn:=
⟨65,[.t 6],(.seq
 (.reg [⟨some 3,.boxv (.t 0),no⟩,⟨some 4,.boxv (.t 1),no⟩,⟨some 5,.boxv (.t 2),no⟩,⟨some 6,.mv (.k (.bool false)),no⟩]) (.seq
 (.reg [⟨some 14,.ld true 2 (.t 3),no⟩,⟨some 15,.fld 1 (.t 5),no⟩,⟨some 16,.ld false 1 (.t 15),no⟩,⟨some 17,.call (.k (.fn (.func 47) [] [])) [.t 14,.t 16],no⟩,⟨some 13,.mv (.t 17),no⟩,⟨some 18,.ext (.t 13) 0,no⟩,⟨some 19,.ext (.t 13) 1,no⟩,⟨some 7,.box [(.int .i64 0),(.nil 1)],no⟩,⟨no,.st 2 (.t 7) (.t 18),no⟩,⟨some 8,.mv (.t 19),no⟩]) (.seq (.seq
 (.reg [⟨some 20,.mv (.t 8),no⟩,⟨some 21,.un .not (.t 20),no⟩,⟨some 22,.mv (.t 21),no⟩,⟨some 23,.ld true 2 (.t 4),(some (22,false))⟩,⟨some 24,.fld 0 (.t 3),(some (22,false))⟩,⟨some 25,.ld false 1 (.t 24),(some (22,false))⟩,⟨some 26,.call (.k (.fn (.func 25) [] [])) [.t 23,.t 25],(some (22,false))⟩,⟨some 27,.un .not (.t 26),(some (22,false))⟩,⟨some 28,.pick (.t 22) (.k (.bool true)) (.t 27),no⟩,⟨some 29,.mv (.t 28),no⟩,⟨some 30,.fld 0 (.t 5),(some (29,false))⟩,⟨some 31,.ld false 1 (.t 30),(some (29,false))⟩,⟨some 32,.call (.k (.fn (.func 43) [] [])) [.t 31,(.k (.int .i64 0)),(.k (.int .i64 1000000000))],(some (29,false))⟩,⟨some 33,.un .not (.t 32),(some (29,false))⟩,⟨some 34,.pick (.t 29) (.k (.bool true)) (.t 33),no⟩]) (.cond (.t 34) (.seq
 (.reg [⟨some 6,.mv (.k (.bool false)),no⟩]) .ret) .skip)) (.seq (.draw (.op ⟨some 36,.ld true 2 (.t 4),no⟩ (.op ⟨some 37,.fld 0 (.t 3),no⟩ (.op ⟨some 38,.ld false 1 (.t 37),no⟩ (.both (.op ⟨some 39,.call (.k (.fn (.func 27) [] [])) [(.k (.int .i64 1)),.t 38],no⟩ (.both (.op ⟨some 40,.call (.k (.fn (.func 26) [] [])) [.t 36,(.k (.int .i64 1)),.t 39],no⟩ (.op ⟨some 35,.mv (.t 40),no⟩ (.op ⟨some 41,.ext (.t 35) 0,no⟩ (.op ⟨some 42,.ext (.t 35) 1,no⟩ (.op ⟨some 9,.box [(.int .i64 0),(.nil 1)],no⟩ (.hop ⟨no,.st 2 (.t 9) (.t 41),no⟩ [] (.op ⟨some 10,.mv (.t 42),no⟩ .fin))))))) (.op ⟨some 9,.box [(.int .i64 0),(.nil 1)],no⟩ (.op ⟨some 40,.call (.k (.fn (.func 26) [] [])) [.t 36,(.k (.int .i64 1)),.t 39],no⟩ (.op ⟨some 35,.mv (.t 40),no⟩ (.op ⟨some 41,.ext (.t 35) 0,no⟩ (.op ⟨some 42,.ext (.t 35) 1,no⟩ (.hop ⟨no,.st 2 (.t 9) (.t 41),no⟩ [] (.op ⟨some 10,.mv (.t 42),no⟩ .fin))))))))) (.op ⟨some 9,.box [(.int .i64 0),(.nil 1)],no⟩ (.op ⟨some 39,.call (.k (.fn (.func 27) [] [])) [(.k (.int .i64 1)),.t 38],no⟩ (.op ⟨some 40,.call (.k (.fn (.func 26) [] [])) [.t 36,(.k (.int .i64 1)),.t 39],no⟩ (.op ⟨some 35,.mv (.t 40),no⟩ (.op ⟨some 41,.ext (.t 35) 0,no⟩ (.op ⟨some 42,.ext (.t 35) 1,no⟩ (.hop ⟨no,.st 2 (.t 9) (.t 41),no⟩ [] (.op ⟨some 10,.mv (.t 42),no⟩ .fin))))))))))))) (.seq
 (.reg [⟨some 44,.ld true 2 (.t 7),no⟩,⟨some 45,.fld 0 (.t 5),no⟩,⟨some 46,.ld false 1 (.t 45),no⟩,⟨some 47,.bin .sub (.k (.int .i64 0)) (.t 46),no⟩,⟨some 48,.ld true 2 (.t 9),no⟩,⟨some 49,.call (.k (.fn (.func 26) [] [])) [.t 44,.t 47,.t 48],no⟩,⟨some 43,.mv (.t 49),no⟩,⟨some 50,.ext (.t 43) 0,no⟩,⟨some 51,.ext (.t 43) 1,no⟩,⟨some 11,.box [(.int .i64 0),(.nil 1)],no⟩,⟨no,.st 2 (.t 11) (.t 50),no⟩,⟨some 12,.mv (.t 51),no⟩]) (.seq
 (.reg [⟨some 52,.mv (.t 10),no⟩,⟨some 53,.mv (.t 52),no⟩,⟨some 54,.mv (.t 12),(some (53,true))⟩,⟨some 55,.pick (.t 53) (.t 54) (.k (.bool false)),no⟩,⟨some 56,.mv (.t 55),no⟩,⟨some 57,.ld true 2 (.t 11),(some (56,true))⟩,⟨some 58,.call (.k (.fn (.func 48) [] [])) [.t 57],(some (56,true))⟩,⟨some 59,.pick (.t 56) (.t 58) (.k (.bool false)),no⟩,⟨some 60,.mv (.t 59),no⟩,⟨some 61,.fld 0 (.t 11),(some (60,true))⟩,⟨some 62,.ld false 1 (.t 61),(some (60,true))⟩,⟨some 63,.bin .lss (.t 62) (.k (.int .i64 0)),(some (60,true))⟩,⟨some 64,.pick (.t 60) (.t 63) (.k (.bool false)),no⟩,⟨some 6,.mv (.t 64),no⟩]) .ret))))))⟩
theorem a29_ok:compFn Try.prog Try.f29=some a29:=by kernel_rfl
def lastF (x:DSystem) (t:DLin) (f:DFarkas):Option DLin:=addScaled ((combO x f.Mult).getD lin0) (-f.Scale) ((plusL t 1).getD lin0)
def checkF (x:DSystem) (t:DLin) (f:DFarkas):Bool:=
 (combO x f.Mult).isSome&&okLin t x.N&&inR f.Scale 0 1000000000&&(plusL t 1).isSome&&(lastF x t f).isSome&&isConst ((lastF x t f).getD lin0)&&decide (((lastF x t f).getD lin0).Const<0)
theorem comb_sys {x:DSystem} {m:List Int} (h:(combO x m).isSome=true):okSys x=true:=by
 unfold combO at h
 cases hs:okSys x
 · rw [hs] at h; simp at h
 · rfl
theorem plus_add {t:DLin} {n:Int} (h:okLin t n=true):addScaled t 1 (constLin 1 n)=plusL t 1:=by
 have hl:=okLin_len h
 have hc:constLin 1 n=⟨1,List.replicate n.toNat 0⟩:=by
   unfold constLin
   rw [if_pos (by simp [inR,okC]; omega)]
 have hz:∀ c,okC c=true→scaledO c 1 0=some c:=fun c hc=>by
   have h0:okC 0=true:=by decide
   have h1:okC 1=true:=by decide
   simp [scaledO,mulL,addL,h0,h1,hc]
 have h1:scaledO t.Const 1 1=if (addL t.Const 1).2 then some (addL t.Const 1).1 else Option.none:=by
   have h1:okC 1=true:=by decide
   simp [scaledO,mulL,h1]
 have hok:okLin t t.Coeffs.length=true:=by rw [hl.1]; exact h
 have hok2:okLin (constLin 1 n) t.Coeffs.length=true:=by
   rw [hc]; unfold okLin
   simp [inR]
   exact ⟨⟨⟨by omega,by omega⟩,by decide⟩,.inr (by decide)⟩
 have hall:t.Coeffs.all okC=true:=by
   unfold okLin at h; simp at h; simpa using h.2
 have hZ:combZ t 1 (constLin 1 n)=t.Coeffs.map some:=by
   rw [hc]
   unfold combZ
   refine List.ext_getElem (by simp; omega) fun i h1 h2 => ?_
   simp
   exact hz _ (List.all_eq_true.1 hall _ (List.getElem_mem _))
 have hO:combOk t 1 (constLin 1 n)=true:=by unfold combOk; rw [hZ]; simp
 unfold addScaled plusL
 rw [hok,hok2,hO,hZ]
 have hc1:(constLin 1 n).Const=1:=by rw [hc]
 rw [hc1,h1]
 have h11:okC 1=true:=by decide
 rw [h11]
 cases (addL t.Const 1).2 <;> simp [Function.comp_def]
set_option maxRecDepth 20000 in
set_option maxHeartbeats 2000000 in
theorem k_CheckFarkas (x:DSystem) (t:DLin) (f:DFarkas):Holds Try.prog 37 [.agg (rASystem x),.agg (rALin t),.agg (rAFarkas f)] (fun r=>r = .bool (checkF x t f)):=by
 refine holds_of_run Try.func37 a37_ok rfl (by simp [a37]) ?_
 simp [a37,rASystem,rALin,rAFarkas]
 first|refine callD_of (k_IsValidSystem x) (by first|simp [rASystem];done|rfl) ?_|refine call_of (k_IsValidSystem x) (by first|simp [rASystem];done|rfl) ?_
 rintro r rfl
 unfold checkF
 cases h1:okSys x
 · have h1':(combO x f.Mult).isSome=false:=by
     cases hc:(combO x f.Mult).isSome
     · rfl
     · rw [comb_sys hc] at h1; cases h1
   simp [h1']
 simp
 first|refine callD_of (k_IsValidLin t x.N) (by first|simp [rALin];done|rfl) ?_|refine call_of (k_IsValidLin t x.N) (by first|simp [rALin];done|rfl) ?_
 rintro r rfl
 cases h2:okLin t x.N
 · simp
 simp
 first|refine callD_of (k_within f.Scale 0 1000000000) (by first|simp;done|rfl) ?_|refine call_of (k_within f.Scale 0 1000000000) (by first|simp;done|rfl) ?_
 rintro r rfl
 cases h3:inR f.Scale 0 1000000000
 · simp
 have hs:0≤f.Scale∧f.Scale≤1000000000:=by simpa [inR] using h3
 simp
 first|refine callD_of (k_CombineRows x f.Mult) (by first|simp [rASystem];done|rfl) ?_|refine call_of (k_CombineRows x f.Mult) (by first|simp [rASystem];done|rfl) ?_
 rintro r rfl
 rw [optLin_eq]
 generalize hb1:(combO x f.Mult).isSome=b1
 simp [rULin]
 first|refine callD_of (k_plus t 1) (by first|simp [rALin];done|rfl) ?_|refine call_of (k_plus t 1) (by first|simp [rALin];done|rfl) ?_
 rintro r rfl
 rw [optLin_eq]
 generalize hb2:(plusL t 1).isSome=b2
 cases b1
 · simp [rULin]
 cases b2
 · simp [rULin]
 simp [rULin]
 rw [wrap64 (by omega)]
 first|refine callD_of (k_AddScaled ((combO x f.Mult).getD lin0) (-f.Scale) ((plusL t 1).getD lin0)) (by first|simp [rALin];done|rfl) ?_|refine call_of (k_AddScaled ((combO x f.Mult).getD lin0) (-f.Scale) ((plusL t 1).getD lin0)) (by first|simp [rALin];done|rfl) ?_
 rintro r rfl
 rw [show addScaled ((combO x f.Mult).getD lin0) (-f.Scale) ((plusL t 1).getD lin0)=lastF x t f from rfl,optLin_eq]
 generalize hb3:(lastF x t f).isSome=b3
 cases b3
 · simp [rULin]
 simp [rULin]
 first|refine callD_of (k_IsConstant ((lastF x t f).getD lin0)) (by first|simp [rALin];done|rfl) ?_|refine call_of (k_IsConstant ((lastF x t f).getD lin0)) (by first|simp [rALin];done|rfl) ?_
 rintro r rfl
 cases h7:isConst ((lastF x t f).getD lin0) <;> simp
set_option maxRecDepth 20000 in
set_option maxHeartbeats 2000000 in
theorem ks_CheckFarkas (x:DSystem) (t:DLin) (f:DFarkas):Holds Try.prog 29 [.agg (rASystem x),.agg (rALin t),.agg (rAFarkas f)] (fun r=>r = .bool (checkF x t f)):=by
 refine holds_of_run Try.func29 a29_ok rfl (by simp [a29]) ?_
 simp [a29,rASystem,rALin,rAFarkas]
 first|refine callD_of (ks_CombineRows x f.Mult) (by first|simp [rASystem];done|rfl) ?_|refine call_of (ks_CombineRows x f.Mult) (by first|simp [rASystem];done|rfl) ?_
 rintro r rfl
 rw [optLin_eq]
 unfold checkF
 generalize hb1:(combO x f.Mult).isSome=b1
 cases b1
 · simp [rULin]
 simp [rULin]
 first|refine callD_of (ks_IsValidLin t x.N) (by first|simp [rALin];done|rfl) ?_|refine call_of (ks_IsValidLin t x.N) (by first|simp [rALin];done|rfl) ?_
 rintro r rfl
 cases h2:okLin t x.N
 · simp
 simp
 first|refine callD_of (k_l1In f.Scale 0 1000000000) (by first|simp;done|rfl) ?_|refine call_of (k_l1In f.Scale 0 1000000000) (by first|simp;done|rfl) ?_
 rintro r rfl
 cases h3:inR f.Scale 0 1000000000
 · simp
 have hs:0≤f.Scale∧f.Scale≤1000000000:=by simpa [inR] using h3
 simp
 refine ⟨?_,?_⟩
 all_goals
   first|refine callD_of (ks_ConstLin 1 x.N) (by first|simp;done|rfl) ?_|refine call_of (ks_ConstLin 1 x.N) (by first|simp;done|rfl) ?_
   rintro r rfl
   simp [rULin]
 refine And.intro ?_ ?_
 all_goals
   first|refine callD_of (ks_AddScaled t 1 (constLin 1 x.N)) (by first|simp [rALin];done|rfl) ?_|refine call_of (ks_AddScaled t 1 (constLin 1 x.N)) (by first|simp [rALin];done|rfl) ?_
   rintro r rfl
   rw [plus_add h2,optLin_eq]
   generalize hb2:(plusL t 1).isSome=b2
   simp [rULin]
   rw [wrap64 (by omega)]
   first|refine callD_of (ks_AddScaled ((combO x f.Mult).getD lin0) (-f.Scale) ((plusL t 1).getD lin0)) (by first|simp [rALin];done|rfl) ?_|refine call_of (ks_AddScaled ((combO x f.Mult).getD lin0) (-f.Scale) ((plusL t 1).getD lin0)) (by first|simp [rALin];done|rfl) ?_
   rintro r rfl
   rw [show addScaled ((combO x f.Mult).getD lin0) (-f.Scale) ((plusL t 1).getD lin0)=lastF x t f from rfl,optLin_eq]
   generalize hb3:(lastF x t f).isSome=b3
   cases b2
   · simp [rULin]
   cases b3
   · simp [rULin]
   simp [rULin]
   first|refine callD_of (ks_IsConstant ((lastF x t f).getD lin0)) (by first|simp [rALin];done|rfl) ?_|refine call_of (ks_IsConstant ((lastF x t f).getD lin0)) (by first|simp [rALin];done|rfl) ?_
   rintro r rfl
   cases h7:isConst ((lastF x t f).getD lin0) <;> simp
end Go.Proofs.Ytoclolkigjbcgaa

namespace Go.Proofs.Ytoclolkigjbcgaa
set_option linter.all false
open Go Go.RowKit Go.Proofs
theorem addScaled_some {a b o:DLin} {k:Int} (h:addScaled a k b=some o):o.Coeffs.length=a.Coeffs.length∧okLin b a.Coeffs.length=true:=by
 unfold addScaled at h
 split at h
 · rename_i hc
   simp only [Bool.and_eq_true] at hc
   have h1:=okLin_len hc.1.1.1.1
   have h2:=okLin_len hc.1.1.1.2
   cases h
   refine ⟨?_,hc.1.1.1.2⟩
   simp [combZ]; omega
 · cases h
theorem constLin_ok {c:Int} {n:Nat} (hc:okC c=true) (hn:(n:Int)≤8):constLin c n=⟨c,List.replicate n 0⟩∧okLin (constLin c n) n=true:=by
 have h:constLin c n=⟨c,List.replicate n 0⟩:=by
   unfold constLin
   rw [if_pos (by simp [inR,hc]; omega)]; simp
 refine ⟨h,?_⟩
 rw [h]
 simp [okLin,inR,hc,hn]
 right; decide
end Go.Proofs.Ytoclolkigjbcgaa

namespace Go.Proofs.Ytoclolkigjbcgaa
set_option linter.all false
open Go Go.RowKit Go.Proofs
structure DDer where
 l:DLin
 mult:List Int
 scale:Int
def mixI (j x k y:Int):Int×Bool:=((scaledI (mulL j x).1 k y).1,(mulL j x).2&&(scaledI (mulL j x).1 k y).2)
def mixs (j:Int) (xs:List Int) (k:Int) (ys:List Int):List (Int×Bool):=List.zipWith (fun x y=>mixI j x k y) xs ys
def joinD (a:DDer) (j:Int) (b:DDer) (k:Int):Option DDer:=
 match addScaled (constLin 0 a.l.Coeffs.length) j a.l with
 | Option.none=>Option.none
 | some l1=>match addScaled l1 k b.l with
   | Option.none=>Option.none
   | some l2=>if (mixI j a.scale k b.scale).2&&(mixs j a.mult k b.mult).all (·.2) then some ⟨l2,(mixs j a.mult k b.mult).map (·.1),(mixI j a.scale k b.scale).1⟩ else Option.none
def coefD (v:Nat) (d:DDer):Int:=d.l.Coeffs.getD v 0
def gcdP (p q:Int):Nat:=Nat.gcd p.toNat q.toNat
def joinAt (v:Nat) (a b:DDer):Option DDer:=
 joinD a ((-(coefD v b)).tdiv (gcdP (coefD v a) (-(coefD v b)))) b ((coefD v a).tdiv (gcdP (coefD v a) (-(coefD v b))))
def joins (v:Nat) (l:List DDer) (a:DDer):List DDer:=
 if coefD v a≤0 then [] else l.filterMap fun b=>if -(coefD v b)≤0 then Option.none else joinAt v a b
def elimD (v:Nat) (l:List DDer):List DDer:=l.filter (fun d=>coefD v d==0)++l.flatMap (joins v l)
def goE:Nat→Nat→List DDer→Option (List DDer)
 | _,0,l=>some l
 | v,n+1,l=>if (elimD v l).length≤60 then goE (v+1) n (elimD v l) else Option.none
def unitI (m k:Nat):List Int:=(List.replicate m 0).set k 1
def startD (rows:List DLin) (last:DLin):List DDer:=
 (List.range rows.length).map (fun k=>(⟨rows.getD k lin0,unitI rows.length k,0⟩:DDer))++[⟨last,List.replicate rows.length 0,1⟩]
def farkas0:DFarkas:=⟨0,[]⟩
def findL (s:DSystem) (t:DLin) (L:List DDer):Option DFarkas:=
 match L.find? fun d=>decide (d.l.Const<0) with
 | Option.none=>Option.none
 | some d=>if checkF s t ⟨d.scale,d.mult⟩ then some ⟨d.scale,d.mult⟩ else Option.none
def findF (s:DSystem) (t:DLin):Option DFarkas:=
 if okSys s&&okLin t s.N then
   match addScaled (constLin (-1) s.N) (-1) t with
   | Option.none=>Option.none
   | some last=>match goE 0 s.N.toNat (startD s.Rows last) with
     | Option.none=>Option.none
     | some L=>findL s t L
 else Option.none
def optFk (o:Option DFarkas):AV := .tup [.agg (rUFarkas (o.getD farkas0)),.bool o.isSome]
theorem addL_ok {x y:Int} (h:(addL x y).2=true):okC (addL x y).1=true:=by
 unfold addL at h ⊢
 split at h
 · rename_i hc
   simp only [Bool.and_eq_true] at hc
   rw [if_pos (by simp [hc])]; exact hc.2
 · cases h
theorem scaledO_ok {x k y v:Int} (h:scaledO x k y=some v):okC v=true:=by
 unfold scaledO at h
 split at h
 · rename_i hc
   simp only [Bool.and_eq_true] at hc
   cases h; exact addL_ok hc.2
 · cases h
theorem addScaled_ok {a b o:DLin} {k:Int} (h:addScaled a k b=some o):okLin o a.Coeffs.length=true:=by
 obtain ⟨hl,_⟩:=addScaled_some h
 unfold addScaled at h
 split at h
 · rename_i hc
   simp only [Bool.and_eq_true] at hc
   have h1:=hc.1.1.1.1
   have h4:=hc.1.2
   have h5:=hc.2
   have h6:=okLin_len h1
   cases h
   unfold okLin
   simp only [Bool.and_eq_true,decide_eq_true_eq,List.all_eq_true]
   refine ⟨⟨⟨by simp [inR]; omega,by simp only at hl ⊢; omega⟩,?_⟩,?_⟩
   · obtain ⟨v,hv⟩:=Option.isSome_iff_exists.1 h4
     rw [hv]; exact scaledO_ok hv
   · intro y hy
     simp only [List.mem_map] at hy
     obtain ⟨z,hz,rfl⟩:=hy
     have h7:=List.all_eq_true.1 h5 z hz
     obtain ⟨v,rfl⟩:=Option.isSome_iff_exists.1 h7
     unfold combZ at hz
     rw [List.mem_iff_getElem] at hz
     obtain ⟨i,hi,he⟩:=hz
     simp only [List.getElem_zipWith] at he
     exact scaledO_ok he
 · cases h
structure GD (N m:Nat) (d:DDer):Prop where
 ok:okLin d.l N=true
 len:d.mult.length=m
theorem GD.cl {N m:Nat} {d:DDer} (g:GD N m d):d.l.Coeffs.length=N:=by have:=okLin_len g.ok; omega
theorem GD.coef {N m:Nat} {d:DDer} (g:GD N m d) {v:Nat} (hv:v<N):okC (coefD v d)=true:=by
 have h:=g.ok
 have hl:=g.cl
 unfold okLin at h
 simp only [Bool.and_eq_true,List.all_eq_true] at h
 have hlt:v<d.l.Coeffs.length:=by omega
 have e:coefD v d=d.l.Coeffs[v]:=by simp [coefD,hlt]
 rw [e]
 exact h.2 _ (List.getElem_mem _)
theorem joinD_GD {N m:Nat} {a b d:DDer} {j k:Int} (ga:GD N m a) (gb:GD N m b) (h:joinD a j b k=some d):GD N m d:=by
 unfold joinD at h
 have hc:=ga.cl
 have h8:=okLin_len ga.ok
 have hk0:(constLin 0 (a.l.Coeffs.length:Int)).Coeffs.length=N:=by
   rw [(constLin_ok (by decide) (by omega)).1]; simp [hc]
 split at h
 · cases h
 rename_i l1 e1
 split at h
 · cases h
 rename_i l2 e2
 split at h
 · cases h
   have k1:=addScaled_ok e1
   rw [hk0] at k1
   have k2:=addScaled_ok e2
   have k3:=okLin_len k1
   refine ⟨?_,?_⟩
   · have:l1.Coeffs.length=N:=by omega
     rw [this] at k2; exact k2
   · simp [mixs,ga.len,gb.len]
 · cases h
theorem elimD_GD {N m v:Nat} {l:List DDer} (h:∀ d∈l,GD N m d):∀ d∈elimD v l,GD N m d:=by
 intro d hd
 unfold elimD at hd
 rcases List.mem_append.1 hd with hd | hd
 · exact h d (List.mem_filter.1 hd).1
 · obtain ⟨a,ha,hd⟩:=List.mem_flatMap.1 hd
   unfold joins at hd
   split at hd
   · cases hd
   · obtain ⟨b,hb,he⟩:=List.mem_filterMap.1 hd
     split at he
     · cases he
     · exact joinD_GD (h a ha) (h b hb) he
theorem joins_len {v:Nat} {l:List DDer} {a:DDer} : (joins v l a).length≤l.length:=by
 unfold joins
 split
 · simp
 · exact List.length_filterMap_le _ _
theorem flat_len {v:Nat} {L:List DDer} : ∀ {l:List DDer},(l.flatMap (joins v L)).length≤l.length*L.length
 | []=>by simp
 | a::l=>by
   have h1:=flat_len (v:=v) (L:=L) (l:=l)
   have h2:=joins_len (v:=v) (l:=L) (a:=a)
   simp only [List.flatMap_cons,List.length_append,List.length_cons,Nat.succ_mul]; omega
theorem elimD_len {v:Nat} {l:List DDer} : (elimD v l).length≤l.length+l.length*l.length:=by
 have h1:=List.length_filter_le (fun d=>coefD v d==0) l
 have h2:=flat_len (v:=v) (L:=l) (l:=l)
 unfold elimD
 rw [List.length_append]; omega
theorem startD_len (rows:List DLin) (last:DLin):(startD rows last).length=rows.length+1:=by simp [startD]
theorem startD_GD {N:Nat} {rows:List DLin} {last:DLin} (h:∀ r∈rows,okLin r N=true) (hl:okLin last N=true):∀ d∈startD rows last,GD N rows.length d:=by
 intro d hd
 unfold startD at hd
 rcases List.mem_append.1 hd with hd | hd
 · obtain ⟨k,hk,rfl⟩:=List.mem_map.1 hd
   have hk:=List.mem_range.1 hk
   refine ⟨?_,by simp [unitI]⟩
   have e:rows.getD k lin0=rows[k]:=by simp [hk]
   show okLin (rows.getD k lin0) N=true
   rw [e]
   exact h _ (List.getElem_mem hk)
 · simp only [List.mem_singleton] at hd
   subst hd
   exact ⟨hl,by simp⟩
theorem sys_rows {s:DSystem} (h:okSys s=true):s.Rows.length≤20∧(0≤s.N∧s.N≤8)∧∀ r∈s.Rows,okLin r (s.N.toNat:Nat)=true:=by
 unfold okSys at h
 simp only [Bool.and_eq_true,decide_eq_true_eq,List.all_eq_true] at h
 have h1:=h.1.1
 simp [inR] at h1
 refine ⟨h.1.2,h1,fun r hr => ?_⟩
 have:((s.N.toNat:Nat):Int)=s.N:=by omega
 rw [this]; exact h.2 r hr
theorem last_ok {s:DSystem} {t last:DLin} (hs:okSys s=true) (h:addScaled (constLin (-1) s.N) (-1) t=some last):okLin last (s.N.toNat:Nat)=true:=by
 obtain ⟨_,h1,_⟩:=sys_rows hs
 have h2:=addScaled_ok h
 have:s.N=(s.N.toNat:Nat):=by omega
 rw [this] at h2
 rw [(constLin_ok (by decide) (by omega)).1] at h2
 simpa using h2
theorem gcdP_pos {p q:Int} (hp:0<p):0<gcdP p q:=Nat.gcd_pos_of_pos_left _ (by omega)
theorem gcdP_le {p q:Int} (hp:0<p) (hb:p≤1000000000):gcdP p q≤1000000000:=by
 have:=Nat.gcd_le_left (n:=q.toNat) (m:=p.toNat) (by omega)
 unfold gcdP; omega
theorem tdiv_in {p g:Int} (hp:0≤p) (hb:p≤1000000000) (hg:0≤g):0≤p.tdiv g∧p.tdiv g≤1000000000:=by
 have h1:=Int.tdiv_nonneg hp hg
 have h2:=Int.tdiv_le_self g hp
 omega
theorem goE_GD {N m:Nat} : ∀ {n v:Nat} {l L:List DDer},(∀ d∈l,GD N m d)→goE v n l=some L→∀ d∈L,GD N m d
 | 0,v,l,L,h,e=>by simp only [goE,Option.some.injEq] at e; subst e; exact h
 | n+1,v,l,L,h,e=>by
   simp only [goE] at e
   split at e
   · exact goE_GD (elimD_GD h) e
   · cases e
theorem start_GD {s:DSystem} {t last:DLin} (hs:okSys s=true) (h:addScaled (constLin (-1) s.N) (-1) t=some last):∀ d∈startD s.Rows last,GD s.N.toNat s.Rows.length d:=
 startD_GD (sys_rows hs).2.2 (last_ok hs h)
theorem findF_len {s:DSystem} {t:DLin} {f:DFarkas} (h:findF s t=some f):f.Mult.length≤20:=by
 unfold findF at h
 split at h
 case isFalse=>cases h
 rename_i hc
 simp only [Bool.and_eq_true] at hc
 split at h
 · cases h
 rename_i last hl
 split at h
 · cases h
 rename_i L hL
 unfold findL at h
 split at h
 · cases h
 rename_i d hd
 have hm:=List.mem_of_find?_eq_some hd
 have hg:=goE_GD (start_GD hc.1 hl) hL d hm
 have h20:=(sys_rows hc.1).1
 split at h
 · cases h
   have:=hg.len
   simp only; omega
 · cases h
def proveG:List DFarkas→List DObligation→Option (List DFarkas)
 | acc,[]=>some acc
 | acc,o::l=>match findF o.System o.Target with
   | Option.none=>Option.none
   | some f=>proveG (acc++[f]) l
def proveAll (os:List DObligation):Option (List DFarkas):=proveG [] os
def optFs (o:Option (List DFarkas)):AV := .tup [.us 2 ((o.getD []).map rUFarkas),.bool o.isSome]
theorem proveG_sz:∀ {os:List DObligation} {acc o:List DFarkas},proveG acc os=some o→(∀ f∈acc,f.Mult.length≤20)→o.length=acc.length+os.length∧∀ f∈o,f.Mult.length≤20
 | [],acc,o,h,ha=>by simp only [proveG,Option.some.injEq] at h; subst h; exact ⟨rfl,ha⟩
 | x::os,acc,o,h,ha=>by
   simp only [proveG] at h
   split at h
   · cases h
   rename_i f hf
   have h1:=proveG_sz h fun g hg=>by
     rcases List.mem_append.1 hg with hg | hg
     · exact ha g hg
     · rw [List.mem_singleton.1 hg]; exact findF_len hf
   refine ⟨?_,h1.2⟩
   have:=h1.1
   simp at this ⊢; omega
theorem proveAll_len (os:List DObligation):((proveAll os).getD []).length≤os.length∧∀ f∈(proveAll os).getD [],f.Mult.length≤20:=by
 cases h:proveAll os with
 | none=>simp
 | some o=>
   have:=proveG_sz h (by simp)
   simp only [Option.getD_some]
   exact ⟨by have:=this.1; simp at this; omega,this.2⟩
end Go.Proofs.Ytoclolkigjbcgaa

namespace Go.Proofs.Ytoclolkigjbcgaa
set_option linter.all false
open Go Go.RowKit Go.Proofs
def OVi (xs:List Int) (v:AV) (h:Heap) (n:Nat):Prop:=(v = .nil 1∧xs=[])∨∃ id,id<n∧v = .ref id 0 xs.length∧h id=some ⟨false,1,intsR xs⟩
def SVi (xs:List Int) (v:AV) (h:Heap) (n:Nat):Prop:=v = .sl 1 (intsR xs)∨OVi xs v h n
def Keeps (h h':Heap) (n:Nat):Prop:=∀ id z rows,id<n→h id=some ⟨false,z,rows⟩→h' id=some ⟨false,z,rows⟩
theorem Keeps.of {h h':Heap} {n:Nat} (hh:∀ id,id<n→h' id=h id):Keeps h h' n:=fun id _ _ hid e=>by rw [hh id hid,e]
theorem Keeps.trans {h h1 h2:Heap} {n n1:Nat} (a:Keeps h h1 n) (b:Keeps h1 h2 n1) (hn:n≤n1):Keeps h h2 n:=fun id z rows hid e=>b id z rows (by omega) (a id z rows hid e)
theorem OVi.keep {xs:List Int} {v:AV} {h h':Heap} {n n':Nat} (x:OVi xs v h n) (hn:n≤n') (k:Keeps h h' n):OVi xs v h' n':=by
 rcases x with x | ⟨id,h1,h2,h3⟩
 · exact .inl x
 · exact .inr ⟨id,by omega,h2,k id _ _ h1 h3⟩
theorem SVi.keep {xs:List Int} {v:AV} {h h':Heap} {n n':Nat} (x:SVi xs v h n) (hn:n≤n') (k:Keeps h h' n):SVi xs v h' n':=by
 rcases x with x | x
 · exact .inl x
 · exact .inr (x.keep hn k)
theorem OVi.cell {xs:List Int} {v:AV} {h:Heap} {n:Nat} (x:OVi xs v h n):isCell v=true:=by
 rcases x with ⟨rfl,_⟩ | ⟨id,_,rfl,_⟩ <;> rfl
theorem SVi.cell {xs:List Int} {v:AV} {h:Heap} {n:Nat} (x:SVi xs v h n):isCell v=true:=by
 rcases x with rfl | x
 · rfl
 · exact x.cell
theorem OVi.bw {xs:List Int} {v:AV} {h:Heap} {n:Nat} (x:OVi xs v h n):Go.Proofs.Ytoclolkigjbcgaa.bw v h=some (.sl 1 (intsR xs)):=by
 rcases x with ⟨rfl,rfl⟩ | ⟨id,_,rfl,e⟩
 · rfl
 · simp [e]
theorem SVi.bw {xs:List Int} {v:AV} {h:Heap} {n:Nat} (x:SVi xs v h n):Go.Proofs.Ytoclolkigjbcgaa.bw v h=some (.sl 1 (intsR xs)):=by
 rcases x with rfl | x
 · rfl
 · exact x.bw
theorem SVi.bwk {xs:List Int} {v:AV} {h h':Heap} {n:Nat} (x:SVi xs v h n) (k:Keeps h h' n):Go.Proofs.Ytoclolkigjbcgaa.bw v h'=some (.sl 1 (intsR xs)):=(x.keep (Nat.le_refl n) k).bw
def DerR (d:DDer) (r:List AV) (h:Heap) (n:Nat):Prop:=∃ vl vm,r=[.int .i64 d.l.Const,vl,vm,.int .i64 d.scale]∧SVi d.l.Coeffs vl h n∧OVi d.mult vm h n
def DerS (d:DDer) (r:List AV) (h:Heap) (n:Nat):Prop:=∃ vl vm,r=[.int .i64 d.l.Const,vl,vm]∧SVi d.l.Coeffs vl h n∧OVi (d.mult++[d.scale]) vm h n
theorem DerR.keep {d:DDer} {r:List AV} {h h':Heap} {n n':Nat} (x:DerR d r h n) (hn:n≤n') (k:Keeps h h' n):DerR d r h' n':=by
 obtain ⟨vl,vm,h1,h2,h3⟩:=x
 exact ⟨vl,vm,h1,h2.keep hn k,h3.keep hn k⟩
theorem DerS.keep {d:DDer} {r:List AV} {h h':Heap} {n n':Nat} (x:DerS d r h n) (hn:n≤n') (k:Keeps h h' n):DerS d r h' n':=by
 obtain ⟨vl,vm,h1,h2,h3⟩:=x
 exact ⟨vl,vm,h1,h2.keep hn k,h3.keep hn k⟩
def LstV (R:DDer→List AV→Heap→Nat→Prop) (z b:Nat) (ds:List DDer) (v:AV) (h:Heap) (n:Nat):Prop:=
 (v = .nil z∧ds=[])∨∃ id rows,b≤id∧id<n∧v = .ref id 0 ds.length∧h id=some ⟨true,z,rows⟩∧rows.length=ds.length∧∀ (i:Nat) d,ds[i]? = some d→∃ r,rows[i]? = some r∧R d r h n
section
variable {R:DDer→List AV→Heap→Nat→Prop} {z b:Nat} {ds:List DDer} {v:AV} {h h':Heap} {n n':Nat}
theorem LstV.keep (hR:∀ d r h h' n n',R d r h n→n≤n'→Keeps h h' n→R d r h' n') (x:LstV R z b ds v h n) (hn:n≤n') (k:Keeps h h' n) (hb:∀ id rows,b≤id→id<n→v = .ref id 0 ds.length→h id=some ⟨true,z,rows⟩→h' id=some ⟨true,z,rows⟩):LstV R z b ds v h' n':=by
 rcases x with x | ⟨id,rows,h0,h1,h2,h3,h4,h5⟩
 · exact .inl x
 · refine .inr ⟨id,rows,h0,by omega,h2,hb id rows h0 h1 h2 h3,h4,fun i d hd => ?_⟩
   obtain ⟨r,g1,g2⟩:=h5 i d hd
   exact ⟨r,g1,hR _ _ _ _ _ _ g2 hn k⟩
theorem LstV.low {b':Nat} (x:LstV R z b ds v h n) (hb:b'≤b):LstV R z b' ds v h n:=by
 rcases x with x | ⟨id,rows,h0,h1⟩
 · exact .inl x
 · exact .inr ⟨id,rows,by omega,h1⟩
theorem LstV.snoc (hR:∀ d r h h' n n',R d r h n→n≤n'→Keeps h h' n→R d r h' n') {d:DDer} {r:List AV} {id:Nat} {rows:List (List AV)} (hl:rows.length=ds.length) (hx:∀ (i:Nat) d,ds[i]? = some d→∃ r,rows[i]? = some r∧R d r h n) (hr:R d r h n) (hn:n≤n') (k:Keeps h h' n)
   (hb:b≤id) (hid:id<n') (e:h' id=some ⟨true,z,rows++[r]⟩):LstV R z b (ds++[d]) (.ref id 0 (ds.length+1)) h' n':=by
 refine .inr ⟨id,rows++[r],hb,hid,by simp,e,by simp [hl],fun i d' hd => ?_⟩
 rcases Nat.lt_trichotomy i ds.length with hi | hi | hi
 · rw [List.getElem?_append_left hi] at hd
   obtain ⟨r',g1,g2⟩:=hx i d' hd
   exact ⟨r',by rw [List.getElem?_append_left (by omega)]; exact g1,hR _ _ _ _ _ _ g2 hn k⟩
 · subst hi
   simp at hd
   subst hd
   exact ⟨r,by rw [←hl]; simp,hR _ _ _ _ _ _ hr hn k⟩
 · rw [List.getElem?_eq_none (by simp; omega)] at hd; cases hd
end
theorem appbV_lst {R:DDer→List AV→Heap→Nat→Prop} {z b bytes:Nat} {ds:List DDer} {v y:AV} {h:Heap} {n:Nat} {d:DDer} {r:List AV} {K:AV→Heap→Nat→Prop} (hR:∀ d r h h' n n',R d r h n→n≤n'→Keeps h h' n→R d r h' n') (x:LstV R z b ds v h n) (hy:srcRowsB h y=some (z,[r])) (hr:R d r h n) (hbn:b≤n) (hl:(ds.length+1)*bytes≤LIM)
   (hK:∀ h',Keeps h h' n→(∀ id,id<n→(∀ k,v ≠ .ref id 0 k)→h' id=h id)→LstV R z b (ds++[d]) (.ref n 0 (ds.length+1)) h' (n+1)→K (.ref n 0 (ds.length+1)) h' (n+1)):appbV bytes z v y h n K:=by
 rcases x with ⟨rfl,rfl⟩ | ⟨id,rows,h0,h1,rfl,h3,h4,h5⟩
 · simp only [appbV_nil,hy,onO]
   have hk:Keeps h (upd h n (some ⟨true,z,[r]⟩)) n:=Keeps.of fun id hid=>by rw [upd_other]; omega
   refine ⟨trivial,by simpa using hl,hK _ hk (fun id hid _=>by rw [upd_other]; omega) ?_⟩
   exact LstV.snoc (ds:=[]) (rows:=[]) hR rfl (by simp) hr (Nat.le_succ n) hk hbn (Nat.lt_succ_self n) (by simp)
 · have ht:List.take ds.length rows=rows:=List.take_of_length_le (by omega)
   simp only [appbV_ref,hy,h3,onO,ht]
   have hf:∀ i,i<n→i≠id→upd (upd h id Option.none) n (some ⟨true,z,rows++[r]⟩) i=h i:=fun i hi hne'=>by
     rw [upd_other _ _ _ _ (by omega),upd_other _ _ _ _ hne']
   have hk:Keeps h (upd (upd h id Option.none) n (some ⟨true,z,rows++[r]⟩)) n:=fun i z' rows' hi e=>by
     have hne':i≠id:=fun e2=>by subst e2; rw [h3] at e; simp at e
     rw [hf i hi hne']; exact e
   refine ⟨trivial,trivial,trivial,by omega,trivial,by simpa using hl,hK _ hk (fun i hi hv=>hf i hi fun e=>hv ds.length (by rw [e])) ?_⟩
   exact LstV.snoc hR h4 h5 hr (Nat.le_succ n) hk hbn (Nat.lt_succ_self n) (by simp)
section
variable {R:DDer→List AV→Heap→Nat→Prop} {z b:Nat} {ds:List DDer} {v:AV} {h:Heap} {n:Nat} {K:AV→Heap→Nat→Prop}
theorem lenV_lst (x:LstV R z b ds v h n) (hl:ds.length≤LIM) (hk:K (.int .i64 ds.length) h n):lenV false v h n K:=by
 rcases x with ⟨rfl,rfl⟩ | ⟨id,rows,_,_,rfl,e,_⟩
 · simpa using hk
 · simp only [lenV_ref,e]; exact ⟨rfl,fun _=>hk⟩
theorem ixaV_lst {i:Nat} (x:LstV R z b ds v h n) (hi:i<ds.length) (hk:∀ id rows r,id<n→h id=some ⟨true,z,rows⟩→(hl:i<rows.length)→rows[i]'hl=r→R ds[i] r h n→K (.ptr id i 0) h n):ixaV z v (some (i:Int)) h n K:=by
 rcases x with ⟨_,rfl⟩ | ⟨id,rows,_,hid,rfl,e,hl,hx⟩
 · simp at hi
 · obtain ⟨r,g1,g2⟩:=hx i ds[i] (List.getElem?_eq_getElem hi)
   simp [hi,e]
   refine hk id rows r hid e (by omega) ?_ g2
   rw [List.getElem?_eq_getElem (by omega)] at g1
   exact Option.some.inj g1
end
theorem acallD_of {P:Program} {f:FuncId} {xs:List AV} {h:Heap} {n:Nat} {K:AV→Heap→Nat→Prop} (hA:ACall P f xs h n fun r h' n'=>(∀ id,id<n→h' id=h id)∧K r h' n'):ACall P f xs h n (hK h K):=by
 refine ⟨hA.1,fun base w0 w L F vs H hv => ?_⟩
 refine (hA.2 base w0 w L F vs H hv).mono ?_
 rintro e w' ⟨v,r,L',n',F',h',rfl,H',hext,hr,hh,hk⟩
 refine ⟨v,r,L',n',F',h',rfl,H',hext,hr,fun id B hB => ?_,hk⟩
 have hlt:id<n:=by
   cases hl:L id with
   | none=>rw [H.mod id hl] at hB; cases hB
   | some l=>exact H.lt id l hl
 rw [hh id hlt]; exact hB
section
variable {xs:List Int} {v:AV} {h:Heap} {n:Nat} {K:AV→Heap→Nat→Prop}
theorem lenW_svi (x:SVi xs v h n) (hk:K (.int .i64 xs.length) h n):lenW false v h n K:=by
 rcases x with rfl | ⟨rfl,rfl⟩ | ⟨id,_,rfl,e⟩
 · simpa using hk
 · simpa using hk
 · simpa [e] using hk
theorem lenV_svi (x:SVi xs v h n) (hk:xs.length≤LIM→K (.int .i64 xs.length) h n) (hl:xs.length≤LIM):lenV false v h n K:=by
 rcases x with rfl | ⟨rfl,rfl⟩ | ⟨id,_,rfl,e⟩
 · simpa using hk
 · simpa using hk (by simp)
 · simpa [e] using hk
theorem ixaV_svi {i:Nat} (x:SVi xs v h n) (hi:i<xs.length) (hk:∀ a,(∀ K':AV→Heap→Nat→Prop,K' (.int .i64 xs[i]) h n→ldV false 1 a h n K')→K a h n):ixaV 1 v (some (i:Int)) h n K:=by
 rcases x with rfl | ⟨rfl,rfl⟩ | ⟨id,_,rfl,e⟩
 · simp [hi]
   exact hk _ fun K' h'=>by simpa [hi] using h'
 · simp at hi
 · simp [hi,e]
   exact hk _ fun K' h'=>by simpa [e,hi] using h'
end
end Go.Proofs.Ytoclolkigjbcgaa

namespace Go.Proofs.Ytoclolkigjbcgaa
set_option linter.all false
open Go Go.RowKit Go.Proofs
def a56:AFn:=
⟨23,[.t 4],(.seq
 (.reg [⟨some 4,.mv (.k (.int .i64 0)),no⟩]) (.seq (.seq
 (.reg [⟨some 5,.mv (.t 0),no⟩,⟨some 6,.call (.k (.fn (.func 52) [] [])) [.t 5],no⟩,⟨some 7,.un .not (.t 6),no⟩,⟨some 8,.mv (.t 7),no⟩,⟨some 9,.mv (.t 1),(some (8,false))⟩,⟨some 10,.call (.k (.fn (.func 52) [] [])) [.t 9],(some (8,false))⟩,⟨some 11,.un .not (.t 10),(some (8,false))⟩,⟨some 12,.pick (.t 8) (.k (.bool true)) (.t 11),no⟩]) (.cond (.t 12) (.seq
 (.reg [⟨some 4,.mv (.k (.int .i64 0)),no⟩]) .ret) .skip)) (.seq (.blk 0 (.loop (.seq (.seq
 (.reg [⟨some 13,.mv (.t 1),no⟩,⟨some 14,.bin .neq (.t 13) (.k (.int .i64 0)),no⟩]) (.cond (.t 14) .skip (.exit 0))) (.blk 1 (.draw (.op ⟨some 15,.mv (.t 1),no⟩ (.op ⟨some 16,.mv (.t 0),no⟩ (.op ⟨some 17,.mv (.t 1),no⟩ (.op ⟨some 18,.bin .rem (.t 16) (.t 17),no⟩ (.hop ⟨some 0,.mv (.t 15),no⟩ [] (.hop ⟨some 1,.mv (.t 18),no⟩ [] .fin))))))))))) (.seq
 (.reg [⟨some 19,.mv (.t 0),no⟩,⟨some 20,.mv (.t 0),no⟩,⟨some 21,.un .neg (.t 20),no⟩,⟨some 22,.mnx true (.t 19) (.t 21),no⟩,⟨some 4,.mv (.t 22),no⟩]) .ret))))⟩
theorem a56_ok:compFn Try.prog Try.f56=some a56:=by kernel_rfl
def a74:AFn:=
⟨8,[.t 2],(.seq
 (.reg [⟨some 2,.mv (.k (.int .i64 0)),no⟩]) (.seq (.seq
 (.reg [⟨some 3,.mv (.t 0),no⟩,⟨some 4,.bin .lss (.t 3) (.k (.int .i64 0)),no⟩]) (.cond (.t 4) (.seq
 (.reg [⟨some 5,.mv (.t 0),no⟩,⟨some 6,.bin .sub (.k (.int .i64 0)) (.t 5),no⟩,⟨some 2,.mv (.t 6),no⟩]) .ret) .skip)) (.seq
 (.reg [⟨some 7,.mv (.t 0),no⟩,⟨some 2,.mv (.t 7),no⟩]) .ret)))⟩
theorem a74_ok:compFn Try.prog Try.f74=some a74:=by kernel_rfl
def a65:AFn:=
⟨28,[.t 4],(.seq
 (.reg [⟨some 4,.mv (.k (.int .i64 0)),no⟩]) (.seq (.seq
 (.reg [⟨some 8,.mv (.t 0),no⟩,⟨some 9,.call (.k (.fn (.func 44) [] [])) [.t 8],no⟩,⟨some 10,.un .not (.t 9),no⟩,⟨some 11,.mv (.t 10),no⟩,⟨some 12,.mv (.t 1),(some (11,false))⟩,⟨some 13,.call (.k (.fn (.func 44) [] [])) [.t 12],(some (11,false))⟩,⟨some 14,.un .not (.t 13),(some (11,false))⟩,⟨some 15,.pick (.t 11) (.k (.bool true)) (.t 14),no⟩]) (.cond (.t 15) (.seq
 (.reg [⟨some 4,.mv (.k (.int .i64 0)),no⟩]) .ret) .skip)) (.seq
 (.reg [⟨some 16,.mv (.t 0),no⟩,⟨some 17,.call (.k (.fn (.func 74) [] [])) [.t 16],no⟩,⟨some 5,.mv (.t 17),no⟩]) (.seq
 (.reg [⟨some 18,.mv (.t 1),no⟩,⟨some 19,.call (.k (.fn (.func 74) [] [])) [.t 18],no⟩,⟨some 6,.mv (.t 19),no⟩]) (.seq (.blk 0 (.loop (.seq (.seq
 (.reg [⟨some 20,.mv (.t 6),no⟩,⟨some 21,.bin .gtr (.t 20) (.k (.int .i64 0)),no⟩]) (.cond (.t 21) .skip (.exit 0))) (.blk 1 (.seq
 (.reg [⟨some 22,.mv (.t 5),no⟩,⟨some 23,.mv (.t 6),no⟩,⟨some 24,.bin .rem (.t 22) (.t 23),no⟩,⟨some 7,.mv (.t 24),no⟩]) (.seq
 (.reg [⟨some 25,.mv (.t 6),no⟩,⟨some 5,.mv (.t 25),no⟩])
 (.reg [⟨some 26,.mv (.t 7),no⟩,⟨some 6,.mv (.t 26),no⟩]))))))) (.seq
 (.reg [⟨some 27,.mv (.t 5),no⟩,⟨some 4,.mv (.t 27),no⟩]) .ret))))))⟩
theorem a65_ok:compFn Try.prog Try.f65=some a65:=by kernel_rfl
theorem in64 {a b:Nat} (ha:a≤1000000000) (_hb:b≤1000000000):(a:Int).tmod (b:Int)=((a % b:Nat):Int):=by
 rw [Int.ofNat_tmod]
theorem k_GcdN (a b:Nat) (ha:a≤1000000000) (hb:b≤1000000000):Holds Try.prog 56 [i64 a,i64 b] (fun r=>r=i64 (Nat.gcd a b:Nat)):=by
 have oa:okC (a:Int)=true:=by rw [okC_iff]; omega
 have ob:okC (b:Int)=true:=by rw [okC_iff]; omega
 refine holds_of_run Try.func56 a56_ok rfl (by simp [a56]) ?_
 simp [a56]
 first|refine callD_of (k_coeffOk (a:Int)) (by first|simp;done|rfl) ?_|refine call_of (k_coeffOk (a:Int)) (by first|simp;done|rfl) ?_
 rintro r rfl
 simp [oa]
 first|refine callD_of (k_coeffOk (b:Int)) (by first|simp;done|rfl) ?_|refine call_of (k_coeffOk (b:Int)) (by first|simp;done|rfl) ?_
 rintro r rfl
 simp [ob]
 generalize hG:Nat.gcd a b=G
 refine rL_of (fun k s h n=>∃ x y:Nat,k=y∧s 0=i64 x∧s 1=i64 y∧x≤1000000000∧y≤1000000000∧Nat.gcd x y=G) b ⟨a,b,rfl,by simp,by simp,ha,hb,hG⟩ ?_
 rintro k s h n ⟨x,y,hky,s0,s1,hx,hy,hg⟩
 by_cases h0:y=0
 · subst h0
   simp at hg
   subst hg
   have hw:IntKind.i64.wrap (0 - (x:Int))=0 - (x:Int):=wrap64 (by omega)
   have hm:¬(0 - (x:Int))>x:=by omega
   simp [s0,s1]
   simp at hw hm
   simp [hw]
   omega
 · have hy0:¬(y:Int)=0:=by omega
   simp [s0,s1,hy0,in64 hx hy,h0]
   exact ⟨x % y,by rw [hky]; exact Nat.mod_lt _ (by omega),y,rfl,by simp,hy,by have:=Nat.mod_lt x (show 0<y by omega); omega,by rw [←hg,Nat.gcd_comm x y,Nat.gcd_rec y x,Nat.gcd_comm]⟩
theorem ks_l3Size (a:Nat) (ha:a≤1000000000):Holds Try.prog 74 [i64 a] (fun r=>r=i64 a):=by
 refine holds_of_run Try.func74 a74_ok rfl (by simp [a74]) ?_
 simp [a74]
 omega
theorem ks_GcdN (a b:Nat) (ha:a≤1000000000) (hb:b≤1000000000):Holds Try.prog 65 [i64 a,i64 b] (fun r=>r=i64 (Nat.gcd a b:Nat)):=by
 have oa:okC (a:Int)=true:=by rw [okC_iff]; omega
 have ob:okC (b:Int)=true:=by rw [okC_iff]; omega
 refine holds_of_run Try.func65 a65_ok rfl (by simp [a65]) ?_
 simp [a65]
 first|refine callD_of (k_l3In (a:Int)) (by first|simp;done|rfl) ?_|refine call_of (k_l3In (a:Int)) (by first|simp;done|rfl) ?_
 rintro r rfl
 simp [oa]
 first|refine callD_of (k_l3In (b:Int)) (by first|simp;done|rfl) ?_|refine call_of (k_l3In (b:Int)) (by first|simp;done|rfl) ?_
 rintro r rfl
 simp [ob]
 first|refine callD_of (ks_l3Size a ha) (by first|simp;done|rfl) ?_|refine call_of (ks_l3Size a ha) (by first|simp;done|rfl) ?_
 rintro r rfl
 simp
 first|refine callD_of (ks_l3Size b hb) (by first|simp;done|rfl) ?_|refine call_of (ks_l3Size b hb) (by first|simp;done|rfl) ?_
 rintro r rfl
 simp
 generalize hG:Nat.gcd a b=G
 refine rL_of (fun k s h n=>∃ x y:Nat,k=y∧s 5=i64 x∧s 6=i64 y∧x≤1000000000∧y≤1000000000∧Nat.gcd x y=G) b ⟨a,b,rfl,by simp,by simp,ha,hb,hG⟩ ?_
 rintro k s h n ⟨x,y,hky,s5,s6,hx,hy,hg⟩
 by_cases h0:y=0
 · subst h0
   simp at hg
   subst hg
   simp [s5,s6]
 · have hy0:¬(y:Int)=0:=by omega
   have hy1:(0:Int)<y:=by omega
   simp [s5,s6,hy0,hy1,in64 hx hy,h0]
   have hpos:0<y:=by omega
   simp [hpos]
   exact ⟨x % y,by rw [hky]; exact Nat.mod_lt _ (by omega),y,rfl,by simp,hy,by have:=Nat.mod_lt x (show 0<y by omega); omega,by rw [←hg,Nat.gcd_comm x y,Nat.gcd_rec y x,Nat.gcd_comm]⟩
end Go.Proofs.Ytoclolkigjbcgaa

namespace Go.Proofs.Ytoclolkigjbcgaa
set_option linter.all false
open Go Go.RowKit Go.Proofs
def cm0:AC:=(.reg [⟨some 6,.mv (.k (.int .i64 0)),no⟩,⟨some 7,.mv (.k (.bool false)),no⟩])
def cm1:AC:=(.reg [⟨some 13,.ld false 1 (.t 2),no⟩,⟨some 14,.mv (.t 0),no⟩,⟨some 15,.call (.k (.fn (.func 68) [] [])) [.t 13,.t 14],no⟩,⟨some 12,.mv (.t 15),no⟩,⟨some 16,.ext (.t 12) 0,no⟩,⟨some 17,.ext (.t 12) 1,no⟩,⟨some 8,.mv (.t 16),no⟩,⟨some 9,.mv (.t 17),no⟩])
def cm2:AC:=(.reg [⟨some 19,.mv (.t 8),no⟩,⟨some 20,.ld false 1 (.t 3),no⟩,⟨some 21,.mv (.t 1),no⟩,⟨some 22,.call (.k (.fn (.func 55) [] [])) [.t 19,.t 20,.t 21],no⟩,⟨some 18,.mv (.t 22),no⟩,⟨some 23,.ext (.t 18) 0,no⟩,⟨some 24,.ext (.t 18) 1,no⟩,⟨some 10,.mv (.t 23),no⟩,⟨some 11,.mv (.t 24),no⟩])
def cm3:AC:=(.reg [⟨some 25,.mv (.t 10),no⟩,⟨some 26,.mv (.t 9),no⟩,⟨some 27,.mv (.t 26),no⟩,⟨some 28,.mv (.t 11),(some (27,true))⟩,⟨some 29,.pick (.t 27) (.t 28) (.k (.bool false)),no⟩,⟨some 6,.mv (.t 25),no⟩,⟨some 7,.mv (.t 29),no⟩])
def a70:AFn:=⟨30,[.t 6,.t 7],(.seq cm0 (.seq cm1 (.seq cm2 (.seq cm3 .ret))))⟩
theorem a70_ok:compFnX true Try.prog Try.f70=some a70:=by kernel_rfl
def cb0:AC:=(.reg [⟨some 4,.boxv (.t 0),no⟩,⟨some 5,.boxv (.t 1),no⟩,⟨some 6,.boxv (.t 2),no⟩,⟨some 7,.boxv (.t 3),no⟩,⟨some 8,.box [(.int .i64 0),(.nil 1),(.nil 1),(.int .i64 0)],no⟩,⟨some 9,.mv (.k (.bool false)),no⟩])
def cb1:AC:=(.draw (.op ⟨some 21,.fld 0 (.t 4),no⟩ (.op ⟨some 22,.fld 1 (.t 21),no⟩ (.op ⟨some 23,.ld false 1 (.t 22),no⟩ (.op ⟨some 24,.len false (.t 23),no⟩ (.op ⟨some 26,.ld false 1 (.t 5),no⟩ (.op ⟨some 27,.fld 0 (.t 4),no⟩ (.op ⟨some 28,.ld true 2 (.t 27),no⟩ (.both (.op ⟨some 25,.call (.k (.fn (.func 35) [] [])) [(.k (.int .i64 0)),.t 24],no⟩ (.both (.op ⟨some 29,.call (.k (.fn (.func 34) [] [])) [.t 25,.t 26,.t 28],no⟩ (.op ⟨some 20,.mv (.t 29),no⟩ (.op ⟨some 30,.ext (.t 20) 0,no⟩ (.op ⟨some 31,.ext (.t 20) 1,no⟩ (.op ⟨some 10,.box [(.int .i64 0),(.nil 1)],no⟩ (.hop ⟨no,.st 2 (.t 10) (.t 30),no⟩ [] (.op ⟨some 11,.mv (.t 31),no⟩ .fin))))))) (.op ⟨some 10,.box [(.int .i64 0),(.nil 1)],no⟩ (.op ⟨some 29,.call (.k (.fn (.func 34) [] [])) [.t 25,.t 26,.t 28],no⟩ (.op ⟨some 20,.mv (.t 29),no⟩ (.op ⟨some 30,.ext (.t 20) 0,no⟩ (.op ⟨some 31,.ext (.t 20) 1,no⟩ (.hop ⟨no,.st 2 (.t 10) (.t 30),no⟩ [] (.op ⟨some 11,.mv (.t 31),no⟩ .fin))))))))) (.op ⟨some 10,.box [(.int .i64 0),(.nil 1)],no⟩ (.op ⟨some 25,.call (.k (.fn (.func 35) [] [])) [(.k (.int .i64 0)),.t 24],no⟩ (.op ⟨some 29,.call (.k (.fn (.func 34) [] [])) [.t 25,.t 26,.t 28],no⟩ (.op ⟨some 20,.mv (.t 29),no⟩ (.op ⟨some 30,.ext (.t 20) 0,no⟩ (.op ⟨some 31,.ext (.t 20) 1,no⟩ (.hop ⟨no,.st 2 (.t 10) (.t 30),no⟩ [] (.op ⟨some 11,.mv (.t 31),no⟩ .fin)))))))))))))))))
def cb2:AC:=(.reg [⟨some 33,.ld true 2 (.t 10),no⟩,⟨some 34,.ld false 1 (.t 7),no⟩,⟨some 35,.fld 0 (.t 6),no⟩,⟨some 36,.ld true 2 (.t 35),no⟩,⟨some 37,.call (.k (.fn (.func 34) [] [])) [.t 33,.t 34,.t 36],no⟩,⟨some 32,.mv (.t 37),no⟩,⟨some 38,.ext (.t 32) 0,no⟩,⟨some 39,.ext (.t 32) 1,no⟩,⟨no,.st 2 (.t 10) (.t 38),no⟩,⟨some 12,.mv (.t 39),no⟩])
def cb3:AC:=(.seq  (.reg [⟨some 40,.mv (.t 11),no⟩,⟨some 41,.un .not (.t 40),no⟩,⟨some 42,.mv (.t 41),no⟩,⟨some 43,.mv (.t 12),(some (42,false))⟩,⟨some 44,.un .not (.t 43),(some (42,false))⟩,⟨some 45,.pick (.t 42) (.k (.bool true)) (.t 44),no⟩]) (.cond (.t 45) (.seq  (.reg [⟨some 46,.build [(.int .i64 0),(.nil 1),(.nil 1),(.int .i64 0)] [],no⟩,⟨no,.st 4 (.t 8) (.t 46),no⟩,⟨some 9,.mv (.k (.bool false)),no⟩]) .ret) .skip))
def cb4:AC:=(.reg [⟨some 47,.mkf (.func 70) [] [.t 5,.t 7],no⟩,⟨some 13,.mv (.t 47),no⟩])
def cb5:AC:=(.reg [⟨some 48,.ld true 2 (.t 10),no⟩,⟨some 49,.build [(.int .i64 0),(.nil 1),(.nil 1),(.int .i64 0)] [(0,(2,(.t 48)))],no⟩,⟨some 14,.box [(.int .i64 0),(.nil 1),(.nil 1),(.int .i64 0)],no⟩,⟨no,.st 4 (.t 14) (.t 49),no⟩])
def cb6:AC:=(.reg [⟨some 51,.mv (.t 13),no⟩,⟨some 52,.fld 3 (.t 4),no⟩,⟨some 53,.ld false 1 (.t 52),no⟩,⟨some 54,.fld 3 (.t 6),no⟩,⟨some 55,.ld false 1 (.t 54),no⟩,⟨some 56,.call (.t 51) [.t 53,.t 55],no⟩,⟨some 50,.mv (.t 56),no⟩,⟨some 57,.ext (.t 50) 0,no⟩,⟨some 58,.ext (.t 50) 1,no⟩,⟨some 15,.mv (.t 57),no⟩,⟨some 16,.mv (.t 58),no⟩])
def cb7:AC:=(.reg [⟨some 59,.mv (.t 15),no⟩,⟨some 60,.fld 3 (.t 14),no⟩,⟨no,.st 1 (.t 60) (.t 59),no⟩])
def cb81:AC:=(.draw (.op ⟨some 68,.mv (.t 13),no⟩ (.op ⟨some 69,.fld 2 (.t 4),no⟩ (.op ⟨some 70,.ld false 1 (.t 69),no⟩ (.op ⟨some 71,.mv (.t 17),no⟩ (.op ⟨some 72,.ixa 1 (.t 70) (.t 71),no⟩ (.op ⟨some 73,.ld false 1 (.t 72),no⟩ (.op ⟨some 74,.fld 2 (.t 6),no⟩ (.op ⟨some 75,.ld false 1 (.t 74),no⟩ (.op ⟨some 76,.mv (.t 17),no⟩ (.op ⟨some 77,.ixa 1 (.t 75) (.t 76),no⟩ (.op ⟨some 78,.ld false 1 (.t 77),no⟩ (.op ⟨some 79,.call (.t 68) [.t 73,.t 78],no⟩ (.op ⟨some 67,.mv (.t 79),no⟩ (.op ⟨some 80,.ext (.t 67) 0,no⟩ (.op ⟨some 81,.ext (.t 67) 1,no⟩ (.op ⟨some 18,.mv (.t 80),no⟩ (.op ⟨some 19,.mv (.t 81),no⟩ .fin))))))))))))))))))
def cb82:AC:=(.reg [⟨some 82,.fld 2 (.t 14),no⟩,⟨some 83,.ld false 1 (.t 82),no⟩,⟨some 84,.mv (.t 18),no⟩,⟨some 85,.bsl 1 [.t 84],no⟩,⟨some 86,.app 8 1 (.t 83) (.t 85),no⟩,⟨some 87,.fld 2 (.t 14),no⟩,⟨no,.st 1 (.t 87) (.t 86),no⟩])
def cb83:AC:=(.reg [⟨some 88,.mv (.t 16),no⟩,⟨some 89,.mv (.t 88),no⟩,⟨some 90,.mv (.t 19),(some (89,true))⟩,⟨some 91,.pick (.t 89) (.t 90) (.k (.bool false)),no⟩,⟨some 16,.mv (.t 91),no⟩])
def cb8:AC:=(.seq  (.reg [⟨some 61,.fld 2 (.t 4),no⟩,⟨some 62,.ld false 1 (.t 61),no⟩,⟨some 63,.len false (.t 62),no⟩,⟨some 64,.mv (.k (.int .i64 0)),no⟩]) (.blk 0 (.loop (.seq  (.reg [⟨some 65,.bin .lss (.t 64) (.t 63),no⟩]) (.seq (.cond (.t 65) .skip (.exit 0)) (.seq (.blk 1 (.seq  (.reg [⟨some 66,.mv (.t 64),no⟩,⟨some 17,.mv (.t 66),no⟩]) (.seq cb81 (.seq  cb82  cb83))))  (.reg [⟨some 92,.bin .add (.t 64) (.k (.int .i64 1)),no⟩,⟨some 64,.mv (.t 92),no⟩])))))))
def cb9:AC:=(.reg [⟨some 93,.ld true 4 (.t 14),no⟩,⟨some 94,.mv (.t 16),no⟩,⟨no,.st 4 (.t 8) (.t 93),no⟩,⟨some 9,.mv (.t 94),no⟩])
def a57:AFn:=⟨95,[(.c 8 true 4),.t 9],(.seq cb0 (.seq cb1 (.seq cb2 (.seq cb3 (.seq cb4 (.seq cb5 (.seq cb6 (.seq cb7 (.seq cb8 (.seq cb9 .ret))))))))))⟩
theorem a57_ok:compFnX true Try.prog Try.f57=some a57:=by kernel_rfl
def LinQ (l:DLin) (k q:Nat) (h:Heap) (lo n:Nat):Prop:=lo≤k∧k<n∧lo≤q∧q<n∧¬k=q∧h k=some ⟨true,2,[[.int .i64 l.Const,.ref q 0 l.Coeffs.length]]⟩∧h q=some ⟨false,1,intsR l.Coeffs⟩
set_option maxRecDepth 20000
set_option maxHeartbeats 2000000
theorem pure_mix {h:Heap} {n i5 i7:Nat} {j k x y:Int} (e5:h i5=some ⟨true,1,[[i64 j]]⟩) (e7:h i7=some ⟨true,1,[[i64 k]]⟩) {K:AV→Heap→Nat→Prop} (hK:K (pairA (mixI j x k y)) h n):ACall Try.prog 70 [i64 x,i64 y,.ptr i5 0 0,.ptr i7 0 0] h n K:=by
 refine acall_body Try.func70 a70_ok rfl (by simp [a70]) ?_
 simp [a70,cm0,cm1,cm2,cm3,e5]
 first|refine callD_of (k_MulLimited j x) (by first|simp;done|rfl) ?_|refine call_of (k_MulLimited j x) (by first|simp;done|rfl) ?_
 rintro r rfl
 simp [pairA,e7]
 first|refine callD_of (k_scaled (mulL j x).1 k y) (by first|simp;done|rfl) ?_|refine call_of (k_scaled (mulL j x).1 k y) (by first|simp;done|rfl) ?_
 rintro r rfl
 simp [pairA]
 unfold pairA mixI at hK
 cases h1:(mulL j x).2
 · rw [h1] at hK; simpa using hK
 · rw [h1] at hK; simpa using hK
section
variable {ks:List Kt} {s:Env} {h h':Heap} {n:Nat} {Q:Fin}
theorem cb1_run {a:DDer} {va ma:AV} {j:Int} {k4 k5:Nat} (s4:s 4 = .ptr k4 0 0) (s5:s 5 = .ptr k5 0 0) (e4:h k4=some ⟨true,4,[[.int .i64 a.l.Const,va,ma,.int .i64 a.scale]]⟩) (e5:h k5=some ⟨true,1,[[i64 j]]⟩) (A1:SVi a.l.Coeffs va h n)
   (hK:∀ s' h' n' k q,(∀ i∈[4,5,6,7,8],s' i=s i)→n≤n'→(∀ id,id<n→h' id=h id)→s' 11 = .bool (addScaled (constLin 0 a.l.Coeffs.length) j a.l).isSome→s' 10 = .ptr k 0 0→LinQ ((addScaled (constLin 0 a.l.Coeffs.length) j a.l).getD lin0) k q h' n n'→kont Try.prog ks .normal s' h' n' Q):rC Try.prog cb1 ks s h n Q:=by
 have fr:∀ id,id<n→¬id=n∧¬id=n+1∧¬id=n+2∧¬id=n+1+1:=by intro id _; omega
 have ne:¬n=n+1∧¬n+1=n∧¬n=n+1+1∧¬n+1+1=n∧¬n+1=n+1+1∧¬n+1+1=n+1:=by omega
 have hb1:∀ y,bw va (upd h n y)=some (.sl 1 (intsR a.l.Coeffs)):=fun y=>A1.bwk (Keeps.of fun id hid=>by simp [fr id hid])
 have hb2:∀ y z,bw va (upd (upd h n y) (n+1) z)=some (.sl 1 (intsR a.l.Coeffs)):=fun y z=>A1.bwk (Keeps.of fun id hid=>by simp [fr id hid])
 simp [cb1,s4,s5,e4,e5]
 refine lenW_svi A1 ?_
 simp [s4,s5,e4,e5]
 refine ⟨?_,?_⟩
 · skip
   first|refine callD_of (k_ConstLin 0 a.l.Coeffs.length) (by first|simp;done|rfl) ?_|refine call_of (k_ConstLin 0 a.l.Coeffs.length) (by first|simp;done|rfl) ?_
   rintro r rfl
   simp [rULin]
   refine ⟨?_,?_⟩
   · skip
     first|refine callD_of (k_AddScaled (constLin 0 a.l.Coeffs.length) j a.l) (by first|simp [rALin,hb1];done|rfl) ?_|refine call_of (k_AddScaled (constLin 0 a.l.Coeffs.length) j a.l) (by first|simp [rALin,hb1];done|rfl) ?_
     rintro r rfl
     rw [optLin_eq]
     generalize addScaled (constLin 0 a.l.Coeffs.length) j a.l=T at *
     simp [rULin,ne]
     exact hK _ _ _ (n+1+1) (n+1) (by simp) (by omega) (fun id hid=>by simp [fr id hid]) (by simp) (by simp) ⟨by omega,by omega,by omega,by omega,by omega,by simp,by simp [ne]⟩
   · skip
     first|refine callD_of (k_AddScaled (constLin 0 a.l.Coeffs.length) j a.l) (by first|simp [rALin,hb2,ne];done|rfl) ?_|refine call_of (k_AddScaled (constLin 0 a.l.Coeffs.length) j a.l) (by first|simp [rALin,hb2,ne];done|rfl) ?_
     rintro r rfl
     rw [optLin_eq]
     generalize addScaled (constLin 0 a.l.Coeffs.length) j a.l=T at *
     simp [rULin,ne]
     exact hK _ _ _ (n+1) (n+1+1) (by simp) (by omega) (fun id hid=>by simp [fr id hid]) (by simp) (by simp) ⟨by omega,by omega,by omega,by omega,by omega,by simp [ne],by simp [ne]⟩
 · skip
   first|refine callD_of (k_ConstLin 0 a.l.Coeffs.length) (by first|simp;done|rfl) ?_|refine call_of (k_ConstLin 0 a.l.Coeffs.length) (by first|simp;done|rfl) ?_
   rintro r rfl
   simp [rULin,ne]
   first|refine callD_of (k_AddScaled (constLin 0 a.l.Coeffs.length) j a.l) (by first|simp [rALin,hb2,ne];done|rfl) ?_|refine call_of (k_AddScaled (constLin 0 a.l.Coeffs.length) j a.l) (by first|simp [rALin,hb2,ne];done|rfl) ?_
   rintro r rfl
   rw [optLin_eq]
   generalize addScaled (constLin 0 a.l.Coeffs.length) j a.l=T at *
   simp [rULin,ne]
   exact hK _ _ _ n (n+1+1) (by simp) (by omega) (fun id hid=>by simp [fr id hid]) (by simp) (by simp) ⟨by omega,by omega,by omega,by omega,by omega,by simp [ne],by simp [ne]⟩
theorem cb2_run {b:DDer} {l:DLin} {vb mb:AV} {k:Int} {k6 k7 k10 q10 lo:Nat} (s6:s 6 = .ptr k6 0 0) (s7:s 7 = .ptr k7 0 0) (s10:s 10 = .ptr k10 0 0) (e6:h k6=some ⟨true,4,[[.int .i64 b.l.Const,vb,mb,.int .i64 b.scale]]⟩) (e7:h k7=some ⟨true,1,[[i64 k]]⟩) (L:LinQ l k10 q10 h lo n) (B1:SVi b.l.Coeffs vb h n) (hlo:lo≤n)
   (hK:∀ s' h' n' q,(∀ i∈[4,5,6,7,8,10,11],s' i=s i)→n≤n'→(∀ id,id<lo→h' id=h id)→s' 12 = .bool (addScaled l k b.l).isSome→LinQ ((addScaled l k b.l).getD lin0) k10 q h' lo n'→kont Try.prog ks .normal s' h' n' Q):rC Try.prog cb2 ks s h n Q:=by
 obtain ⟨l1,l2,l3,l4,l5,l6,l7⟩:=L
 have fr:∀ id,id<n→¬id=n∧¬id=n+1∧¬id=n+2∧¬id=n+1+1:=by intro id _; omega
 have hb:=B1.bw
 have ne:¬k10=n∧¬n=k10:=by omega
 simp [cb2,s6,s7,s10,e6,e7,l6,l7]
 first|refine callD_of (k_AddScaled l k b.l) (by first|simp [rALin,hb,l6,l7];done|rfl) ?_|refine call_of (k_AddScaled l k b.l) (by first|simp [rALin,hb,l6,l7];done|rfl) ?_
 rintro r rfl
 rw [optLin_eq]
 generalize addScaled l k b.l=T at *
 simp [rULin,ne,s10,l6]
 refine hK _ _ _ n (by simp) (by omega) (fun id hid=>by simp [show ¬id=n∧¬id=k10 by omega]) (by simp) ⟨by omega,by omega,by omega,by omega,by omega,by simp [ne],by simp [ne]⟩
end
end Go.Proofs.Ytoclolkigjbcgaa

namespace Go.Proofs.Ytoclolkigjbcgaa
set_option linter.all false
open Go Go.RowKit Go.Proofs
set_option maxRecDepth 20000
set_option maxHeartbeats 2000000
theorem appV_ovi {xs:List Int} {v:AV} {h:Heap} {n k:Nat} {y:Int} {K:AV→Heap→Nat→Prop} (x:OVi xs v h n) (hk:h k=some ⟨false,1,[[i64 y]]⟩) (hvk:∀ l,v ≠ .ref k 0 l) (hkn:k<n) (hl:(xs.length+1)*8≤LIM)
   (hK:∀ h',h' n=some ⟨false,1,intsR (xs++[y])⟩→(∀ id,id≠n→id≠k→(∀ l,v ≠ .ref id 0 l)→h' id=h id)→K (.ref n 0 (xs.length+1)) h' (n+1)):appV 8 1 v (.ref k 0 1) h n K:=by
 rcases x with ⟨rfl,rfl⟩ | ⟨id,h1,rfl,h3⟩
 · simp [hk]
   refine ⟨by simpa using hl,hK _ (by simp [intsR]) ?_⟩
   intro id h1 h2 _
   simp [h1,h2]
 · have hne:¬id=k:=fun e=>hvk xs.length (by rw [e])
   have hne':¬id=n:=by omega
   have hk':¬k=n:=by omega
   have hk2:¬k=id:=fun e=>hne e.symm
   simp [hk,h3,hne,hne',hk',hk2]
   refine ⟨by simpa using hl,hK _ (by simp [intsR]) ?_⟩
   intro i g1 g2 g3
   have:¬i=id:=fun e=>g3 xs.length (by rw [e])
   simp [g1,g2,this]
def der0:DDer:=⟨⟨0,[]⟩,[],0⟩
theorem der0_R {h:Heap} {n:Nat} : DerR der0 [.int .i64 0,.nil 1,.nil 1,.int .i64 0] h n:=⟨.nil 1,.nil 1,rfl,.inr (.inl ⟨rfl,rfl⟩),.inl ⟨rfl,rfl⟩⟩
theorem joinD_1 {a b:DDer} {j k:Int} (h:addScaled (constLin 0 a.l.Coeffs.length) j a.l=Option.none):joinD a j b k=Option.none:=by unfold joinD; rw [h]
theorem joinD_2 {a b:DDer} {j k:Int} {l:DLin} (h:addScaled (constLin 0 a.l.Coeffs.length) j a.l=some l) (h2:addScaled l k b.l=Option.none):joinD a j b k=Option.none:=by unfold joinD; simp only [h,h2]
theorem joinD_3 {a b:DDer} {j k:Int} {l l2:DLin} (h:addScaled (constLin 0 a.l.Coeffs.length) j a.l=some l) (h2:addScaled l k b.l=some l2):joinD a j b k=if (mixI j a.scale k b.scale).2&&(mixs j a.mult k b.mult).all (·.2) then some ⟨l2,(mixs j a.mult k b.mult).map (·.1),(mixI j a.scale k b.scale).1⟩ else Option.none:=by unfold joinD; simp only [h,h2]
def mixv (j:Int) (xs:List Int) (k:Int) (ys:List Int) (i:Nat):List Int:=((mixs j xs k ys).take i).map (·.1)
def mixb (j:Int) (xs:List Int) (k:Int) (ys:List Int) (i:Nat):Bool:=((mixs j xs k ys).take i).all (·.2)
theorem mix_succ {j k:Int} {xs ys:List Int} {i:Nat} (hi:i<xs.length) (hy:ys.length=xs.length):mixv j xs k ys (i+1)=mixv j xs k ys i++[(mixI j xs[i] k (ys[i]'(by omega))).1]∧mixb j xs k ys (i+1)=(mixb j xs k ys i&&(mixI j xs[i] k (ys[i]'(by omega))).2):=by
 have hl:i<(mixs j xs k ys).length:=by simp [mixs]; omega
 have he:(mixs j xs k ys)[i]=mixI j xs[i] k (ys[i]'(by omega)):=by simp [mixs]
 unfold mixv mixb
 rw [List.take_succ_eq_append_getElem hl]
 simp [he]
theorem mix_all {j k:Int} {xs ys:List Int} (hy:ys.length=xs.length):mixv j xs k ys xs.length=(mixs j xs k ys).map (·.1)∧mixb j xs k ys xs.length=(mixs j xs k ys).all (·.2):=by
 have:(mixs j xs k ys).take xs.length=mixs j xs k ys:=List.take_of_length_le (by simp [mixs]; omega)
 unfold mixv mixb; rw [this]; exact ⟨rfl,rfl⟩
theorem mixv_len {j k:Int} {xs ys:List Int} {i:Nat} : (mixv j xs k ys i).length≤xs.length:=by simp [mixv,mixs]; omega
section
variable {ks:List Kt} {s:Env} {h h':Heap} {n:Nat} {Q:Fin}
structure CbS (n0:Nat) (h0:Heap) (a b:DDer) (va ma vb mb:AV) (j k:Int) (k14 q:Nat) (l2:DLin) (xs:List Int) (sc:Int) (h:Heap) (m:Nat):Prop where
 le:n0+5≤k14
 lt:k14<m
 q0:n0+5≤q
 qm:q<m
 fr:∀ id,id<n0→h id=h0 id
 e4:h n0=some ⟨true,4,[[.int .i64 a.l.Const,va,ma,.int .i64 a.scale]]⟩
 e5:h (n0+1)=some ⟨true,1,[[i64 j]]⟩
 e6:h (n0+2)=some ⟨true,4,[[.int .i64 b.l.Const,vb,mb,.int .i64 b.scale]]⟩
 e7:h (n0+3)=some ⟨true,1,[[i64 k]]⟩
 e8:h (n0+4)=some ⟨true,4,[[.int .i64 0,.nil 1,.nil 1,.int .i64 0]]⟩
 eq:h q=some ⟨false,1,intsR l2.Coeffs⟩
 e14:∃ vm,h k14=some ⟨true,4,[[.int .i64 l2.Const,.ref q 0 l2.Coeffs.length,vm,.int .i64 sc]]⟩∧OVi xs vm h m∧∀ id l,vm = .ref id 0 l→n0+5≤id∧id≠q
theorem CbS.step {n0:Nat} {h0:Heap} {a b:DDer} {va ma vb mb:AV} {j k:Int} {k14 q:Nat} {l2:DLin} {xs xs':List Int} {sc:Int} {h h':Heap} {m m':Nat} {vm:AV} (S:CbS n0 h0 a b va ma vb mb j k k14 q l2 xs sc h m) (hm:m≤m') (hf:∀ id,id<n0+5→h' id=h id) (hq:h' q=h q)
   (e:h' k14=some ⟨true,4,[[.int .i64 l2.Const,.ref q 0 l2.Coeffs.length,vm,.int .i64 sc]]⟩) (hx:OVi xs' vm h' m') (hv:∀ id l,vm = .ref id 0 l→n0+5≤id∧id≠q):CbS n0 h0 a b va ma vb mb j k k14 q l2 xs' sc h' m':=by
 obtain ⟨S1,S2,S3,S4,S5,S6,S7,S8,S9,S10,S11,_⟩:=S
 exact ⟨S1,by omega,S3,by omega,fun id hid=>by rw [hf id (by omega)]; exact S5 id hid,by rw [hf _ (by omega)]; exact S6,by rw [hf _ (by omega)]; exact S7,by rw [hf _ (by omega)]; exact S8,by rw [hf _ (by omega)]; exact S9,by rw [hf _ (by omega)]; exact S10,by rw [hq]; exact S11,vm,e,hx,hv⟩
theorem cb8_run {n0:Nat} {h0:Heap} {a b:DDer} {va ma vb mb:AV} {j k:Int} {k14:Nat} {sc:Int} {l2:DLin} {q:Nat} (hml:b.mult.length=a.mult.length) (hm20:a.mult.length≤20) (A2:OVi a.mult ma h0 n0) (B2:OVi b.mult mb h0 n0) (ok:Bool)
   (s4:s 4 = .ptr n0 0 0) (s6:s 6 = .ptr (n0+2) 0 0) (s13:s 13 = .fn (.func 70) [] [.ptr (n0+1) 0 0,.ptr (n0+3) 0 0]) (s14:s 14 = .ptr k14 0 0) (s16:s 16 = .bool ok)
   (S0:CbS n0 h0 a b va ma vb mb j k k14 q l2 [] sc h n)
   (hK:∀ s' h' n',(∀ i∈[8,14],s' i=s i)→s' 16 = .bool (ok&&(mixs j a.mult k b.mult).all (·.2))→n≤n'→CbS n0 h0 a b va ma vb mb j k k14 q l2 ((mixs j a.mult k b.mult).map (·.1)) sc h' n'→kont Try.prog ks .normal s' h' n' Q):rC Try.prog cb8 ks s h n Q:=by
 have hA0:SVi a.mult ma h n := .inr (A2.keep (by have:=S0.le; have:=S0.lt; omega) (Keeps.of S0.fr))
 simp [cb8,s4,S0.e4]
 refine lenV_svi hA0 ?_ (by unfold LIM; omega)
 intro _
 simp
 refine rL_forO [4,6,8,13,14,63] 64 a.mult.length (fun i s h m=>n≤m∧s 16 = .bool (ok&&mixb j a.mult k b.mult i)∧CbS n0 h0 a b va ma vb mb j k k14 q l2 (mixv j a.mult k b.mult i) sc h m) (by unfold LIM; omega) (by simp) ⟨Nat.le_refl _,by simp [mixb,s16],S0⟩ ?_ ?_
 · rintro i st h m R hi hg hk s64 hw ⟨hnm,s16,S⟩ hR hret _
   simp at hk
   have hib:i<b.mult.length:=by omega
   obtain ⟨g1,g2⟩:=mix_succ (j:=j) (k:=k) (xs:=a.mult) (ys:=b.mult) hi hml
   have S':=S
   obtain ⟨S1,S2,Sq0,Sqm,S3,S4,S5,S6,S7,S8,Sq,vm,S9,S10,S11⟩:=S
   have hA:SVi a.mult ma h m := .inr (A2.keep (by omega) (Keeps.of S3))
   have hB:SVi b.mult mb h m := .inr (B2.keep (by omega) (Keeps.of S3))
   refine rC_cut [4,6,8,13,14,16,63,64] (fun s=>s 65 = .bool true) (by simp [hk,s64,hi]) ?_
   intro st1 hk1 s65
   simp at hk1
   refine rC_pass s65 (rC_seqI (rC_blkI ?_))
   refine rC_cut [4,6,8,13,14,16,63,64] (fun s=>s 17 = .int .i64 i) (by simp [hk1,s64]) ?_
   intro st2 hk2 s17
   simp at hk2
   refine rC_cut [4,6,8,13,14,16,63,64] (fun s=>s 18 = .int .i64 (mixI j a.mult[i] k b.mult[i]).1∧s 19 = .bool (mixI j a.mult[i] k b.mult[i]).2) ?_ ?_
   · simp [cb81,hk2,hk1,hk,s4,s6,s13,s17,S4,S6]
     refine ixaV_svi hA hi ?_
     intro w1 hw1
     simp
     refine hw1 _ ?_
     simp [hk2,hk1,hk,s6,s17,S6]
     refine ixaV_svi hB hib ?_
     intro w2 hw2
     simp
     refine hw2 _ ?_
     simp [hk2,hk1,hk,s13]
     refine pure_mix S5 S7 ?_
     simp [pairA]
   rintro st3 hk3 ⟨s18,s19⟩
   simp at hk3
   generalize (mixI j a.mult[i] k b.mult[i]).1=y at *
   generalize (mixI j a.mult[i] k b.mult[i]).2=ob at *
   have x1:¬k14=m:=by omega
   have x2:¬k14=m+1:=by omega
   have vne:∀ id,(∃ z rows,h id=some ⟨true,z,rows⟩)→∀ l,vm ≠ .ref id 0 l:=fun id he l e=>by
     obtain ⟨z,rows,he⟩:=he
     rcases S10 with ⟨rfl,_⟩ | ⟨id',q1,rfl,q3⟩
     · cases e
     · simp at e; rw [e.1,he] at q3; simp at q3
   have vlt:∀ id,m≤id→∀ l,vm ≠ .ref id 0 l:=fun id he l e=>by
     rcases S10 with ⟨rfl,_⟩ | ⟨id',q1,rfl,q3⟩
     · cases e
     · simp at e; omega
   have vmx:OVi (mixv j a.mult k b.mult i) vm (upd h m (some ⟨false,1,[[i64 y]]⟩)) (m+1):=S10.keep (Nat.le_succ m) (Keeps.of fun id hid=>by rw [upd_other]; omega)
   have hl:=mixv_len (j:=j) (k:=k) (xs:=a.mult) (ys:=b.mult) (i:=i)
   refine rC_cutH [4,6,8,13,14,16,19,63,64] (fun s h' m'=>m≤m'∧CbS n0 h0 a b va ma vb mb j k k14 q l2 (mixv j a.mult k b.mult (i+1)) sc h' m') ?_ ?_
   · simp [cb82,hk3,hk2,hk1,hk,s14,s18,S9,x1]
     refine appV_ovi (y:=y) vmx (by simp) (vlt m (Nat.le_refl m)) (Nat.lt_succ_self m) (by unfold LIM; omega) ?_
     intro h' f1 f2
     have old:∀ id,id<m→(∀ l,vm ≠ .ref id 0 l)→h' id=h id:=fun id hid hv=>by
       rw [f2 id (by omega) (by omega) hv,upd_other]; omega
     have y14:=old k14 S2 (vne k14 ⟨_,_,S9⟩)
     rw [S9] at y14
     simp [hk3,hk2,hk1,hk,s14,y14]
     refine ⟨by omega,S'.step (vm := .ref (m+1) 0 ((mixv j a.mult k b.mult i).length+1)) (by omega) ?_ ?_ (by simp) ?_ ?_⟩
     · intro id hid
       have:¬id=k14:=by omega
       simp [this]
       refine old id (by omega) fun l e => ?_
       have:=(S11 id l e).1
       omega
     · have:¬q=k14:=by rintro rfl; rw [S9] at Sq; simp at Sq
       simp [this]
       exact old q Sqm fun l e=>(S11 q l e).2 rfl
     · refine .inr ⟨m+1,by omega,by rw [g1]; simp,?_⟩
       have:¬m+1=k14:=by omega
       simp [this,f1,g1]
     · intro id l e
       simp at e
       omega
   rintro st4 h4 m4 hk4 ⟨hm4,S4'⟩
   simp at hk4
   have g3:(ok&&mixb j a.mult k b.mult (i+1))=((ok&&mixb j a.mult k b.mult i)&&ob):=by rw [g2,Bool.and_assoc]
   generalize (ok&&mixb j a.mult k b.mult i)=bo at *
   generalize (ok&&mixb j a.mult k b.mult (i+1))=bo2 at *
   subst g3
   cases bo
   · simp [cb83,hk4,hk3,hk2,hk1,hk,s16,s19,s64,hw]
     exact hR _ _ _ (by simp [hk4,hk3,hk2,hk1,hk]) (by simp) ⟨by omega,by simp,S4'⟩
   · simp [cb83,hk4,hk3,hk2,hk1,hk,s16,s19,s64,hw]
     exact hR _ _ _ (by simp [hk4,hk3,hk2,hk1,hk]) (by simp) ⟨by omega,by simp,S4'⟩
 · rintro st h m R hk s64 ⟨hnm,s16,S⟩ hret hX
   simp at hk
   obtain ⟨g1,g2⟩:=mix_all (j:=j) (k:=k) (xs:=a.mult) (ys:=b.mult) hml
   rw [g1] at S
   rw [g2] at s16
   refine rC_cut [8,14,16] (fun s=>s 65 = .bool false) (by simp [hk,s64]) ?_
   intro st1 hk1 s65
   simp at hk1
   refine rC_stop s65 ?_
   refine hX _ _ _ _ ?_
   simp
   exact hK _ _ _ (by simp [hk1,hk]) (by rw [hk1.2.2]; exact s16) hnm S
end
end Go.Proofs.Ytoclolkigjbcgaa

namespace Go.Proofs.Ytoclolkigjbcgaa
set_option linter.all false
open Go Go.RowKit Go.Proofs
def sc0:AC:=(.reg [⟨some 8,.mv (.k (.nil 1)),no⟩,⟨some 9,.mv (.k (.bool false)),no⟩])
def sc1:AC:=(.reg [⟨some 18,.bsl 1 [],no⟩,⟨some 10,.mv (.t 18),no⟩])
def sca:AC:=(.reg [⟨some 26,.mv (.t 0),no⟩,⟨some 27,.mv (.t 11),no⟩,⟨some 28,.ixa 1 (.t 26) (.t 27),no⟩,⟨some 29,.ld false 1 (.t 28),no⟩,⟨some 30,.mv (.t 1),no⟩,⟨some 31,.call (.k (.fn (.func 62) [] [])) [.t 29,.t 30],no⟩,⟨some 25,.mv (.t 31),no⟩,⟨some 32,.ext (.t 25) 0,no⟩,⟨some 33,.ext (.t 25) 1,no⟩,⟨some 12,.mv (.t 32),no⟩,⟨some 13,.mv (.t 33),no⟩])
def scb:AC:=(.reg [⟨some 35,.mv (.t 2),no⟩,⟨some 36,.mv (.t 11),no⟩,⟨some 37,.ixa 1 (.t 35) (.t 36),no⟩,⟨some 38,.ld false 1 (.t 37),no⟩,⟨some 39,.mv (.t 3),no⟩,⟨some 40,.call (.k (.fn (.func 62) [] [])) [.t 38,.t 39],no⟩,⟨some 34,.mv (.t 40),no⟩,⟨some 41,.ext (.t 34) 0,no⟩,⟨some 42,.ext (.t 34) 1,no⟩,⟨some 14,.mv (.t 41),no⟩,⟨some 15,.mv (.t 42),no⟩])
def scc:AC:=(.reg [⟨some 44,.mv (.t 12),no⟩,⟨some 45,.mv (.t 14),no⟩,⟨some 46,.call (.k (.fn (.func 63) [] [])) [.t 44,.t 45],no⟩,⟨some 43,.mv (.t 46),no⟩,⟨some 47,.ext (.t 43) 0,no⟩,⟨some 48,.ext (.t 43) 1,no⟩,⟨some 16,.mv (.t 47),no⟩,⟨some 17,.mv (.t 48),no⟩])
def scd:AC:=(.reg [⟨some 60,.mv (.t 10),no⟩,⟨some 61,.mv (.t 16),no⟩,⟨some 62,.bsl 1 [.t 61],no⟩,⟨some 63,.app 8 1 (.t 60) (.t 62),no⟩,⟨some 10,.mv (.t 63),no⟩])
def sc2:AC:=(.seq  (.reg [⟨some 11,.mv (.k (.int .i64 0)),no⟩]) (.blk 0 (.loop (.seq (.seq  (.reg [⟨some 19,.mv (.t 11),no⟩,⟨some 20,.mv (.t 0),no⟩,⟨some 21,.len false (.t 20),no⟩,⟨some 22,.bin .lss (.t 19) (.t 21),no⟩]) (.cond (.t 22) .skip (.exit 0))) (.seq (.blk 1 (.seq  sca (.seq  scb (.seq  scc (.seq (.seq  (.reg [⟨some 49,.mv (.t 13),no⟩,⟨some 50,.un .not (.t 49),no⟩,⟨some 51,.mv (.t 50),no⟩,⟨some 52,.mv (.t 15),(some (51,false))⟩,⟨some 53,.un .not (.t 52),(some (51,false))⟩,⟨some 54,.pick (.t 51) (.k (.bool true)) (.t 53),no⟩,⟨some 55,.mv (.t 54),no⟩,⟨some 56,.mv (.t 17),(some (55,false))⟩,⟨some 57,.un .not (.t 56),(some (55,false))⟩,⟨some 58,.pick (.t 55) (.k (.bool true)) (.t 57),no⟩]) (.cond (.t 58) (.seq  (.reg [⟨some 59,.bsl 1 [],no⟩,⟨some 8,.mv (.t 59),no⟩,⟨some 9,.mv (.k (.bool false)),no⟩]) .ret) .skip))  scd)))))  (.reg [⟨some 23,.mv (.t 11),no⟩,⟨some 24,.bin .add (.t 23) (.k (.int .i64 1)),no⟩,⟨some 11,.mv (.t 24),no⟩]))))))
def sc3:AC:=(.reg [⟨some 64,.mv (.t 10),no⟩,⟨some 8,.mv (.t 64),no⟩,⟨some 9,.mv (.k (.bool true)),no⟩])
def a66:AFn:=⟨65,[.t 8,.t 9],(.seq sc0 (.seq sc1 (.seq sc2 (.seq sc3 .ret))))⟩
theorem a66_ok:compFnX true Try.prog Try.f66=some a66:=by kernel_rfl
set_option maxRecDepth 20000
set_option maxHeartbeats 2000000
theorem zero_rows0 {m:Nat} : List.replicate m [i64 0]=intsR (List.replicate m 0):=by
 unfold intsR
 rw [List.map_replicate]
theorem mulL_comm (x y:Int):mulL x y=mulL y x:=by
 unfold mulL
 rw [Int.mul_comm x y,Bool.and_comm (okC x) (okC y)]
def scV (j:Int) (xs:List Int) (k:Int) (ys:List Int):List Int:=if (mixs j xs k ys).all (·.2) then (mixs j xs k ys).map (·.1) else []
theorem mixb_le {j k:Int} {xs ys:List Int} {i:Nat} (h:mixb j xs k ys i=false):(mixs j xs k ys).all (·.2)=false:=by
 unfold mixb at h
 rw [←List.take_append_drop i (mixs j xs k ys),List.all_append,h]; rfl
theorem ks_l8Scaled (xs ys:List Int) (j k:Int) (hy:ys.length=xs.length) (hl:xs.length≤100):Holds Try.prog 66 [.sl 1 (intsR xs),i64 j,.sl 1 (intsR ys),i64 k] (fun r=>r = .tup [.us 1 (intsR (scV j xs k ys)),.bool ((mixs j xs k ys).all (·.2))]):=by
 refine holds_of_run Try.func66 a66_ok rfl (by simp [a66]) ?_
 simp [a66,sc0,sc1,sc2]
 refine rL_forO [0,1,2,3] 11 xs.length (fun i s h m=>mixb j xs k ys i=true∧∃ id,id<m∧s 10 = .ref id 0 (mixv j xs k ys i).length∧h id=some ⟨false,1,intsR (mixv j xs k ys i)⟩) (by unfold LIM; omega) (by simp) ⟨by simp [mixb],0,by simp,by simp [mixv],by simp [mixv,intsR]⟩ ?_ ?_
 · rintro i st h m R hi hg hk s11 hw ⟨hb,id,hid,s10,eid⟩ hR hret _
   simp at hk
   have hib:i<ys.length:=by omega
   obtain ⟨g1,g2⟩:=mix_succ (j:=j) (k:=k) (xs:=xs) (ys:=ys) hi hy
   refine rC_seqI (rC_cut [0,1,2,3,10,11] (fun s=>s 22 = .bool true) (by simp [hk,s11,hi]) ?_)
   intro st1 hk1 s22
   simp at hk1
   refine rC_pass1 s22 (rC_seqI (rC_blkI ?_))
   refine rC_cut [0,1,2,3,10,11] (fun s=>s 12 = .int .i64 (mulL j xs[i]).1∧s 13 = .bool (mulL j xs[i]).2) ?_ ?_
   · simp [sca,hk1,hk,s11,hi]
     first|refine callD_of (ks_MulLimited (xs[i]'hi) j) (by first|simp;done|rfl) ?_|refine call_of (ks_MulLimited (xs[i]'hi) j) (by first|simp;done|rfl) ?_
     rintro r rfl
     rw [mulL_comm]
     simp [pairA]
   rintro st2 hk2 ⟨s12,s13⟩
   simp at hk2
   refine rC_cut [0,1,2,3,10,11,12,13] (fun s=>s 14 = .int .i64 (mulL k ys[i]).1∧s 15 = .bool (mulL k ys[i]).2) ?_ ?_
   · simp [scb,hk2,hk1,hk,s11,hib]
     first|refine callD_of (ks_MulLimited (ys[i]'hib) k) (by first|simp;done|rfl) ?_|refine call_of (ks_MulLimited (ys[i]'hib) k) (by first|simp;done|rfl) ?_
     rintro r rfl
     rw [mulL_comm]
     simp [pairA]
   rintro st3 hk3 ⟨s14,s15⟩
   simp at hk3
   refine rC_cut [0,1,2,3,10,11,13,15] (fun s=>s 16 = .int .i64 (mixI j xs[i] k ys[i]).1∧s 17 = .bool (addL (mulL j xs[i]).1 (mulL k ys[i]).1).2) ?_ ?_
   · simp [scc,hk3,s12,s14]
     first|refine callD_of (ks_AddLimited (mulL j xs[i]).1 (mulL k ys[i]).1) (by first|simp;done|rfl) ?_|refine call_of (ks_AddLimited (mulL j xs[i]).1 (mulL k ys[i]).1) (by first|simp;done|rfl) ?_
     rintro r rfl
     simp [pairA,mixI,scaledI]
   rintro st4 hk4 ⟨s16,s17⟩
   simp at hk4
   have hok:(mixI j xs[i] k ys[i]).2=((mulL j xs[i]).2&&((mulL k ys[i]).2&&(addL (mulL j xs[i]).1 (mulL k ys[i]).1).2)):=rfl
   have x13:st4 13 = .bool (mulL j xs[i]).2:=by rw [hk4.2.2.2.2.2.2.1,hk3.2.2.2.2.2.2.2,s13]
   have x15:st4 15 = .bool (mulL k ys[i]).2:=by rw [hk4.2.2.2.2.2.2.2,s15]
   have x10:st4 10 = .ref id 0 (mixv j xs k ys i).length:=by rw [hk4.2.2.2.2.1,hk3.2.2.2.2.1,hk2.2.2.2.2.1,hk1.2.2.2.2.1,s10]
   have hbad:mixb j xs k ys (i+1)=false→scV j xs k ys=[]∧(mixs j xs k ys).all (·.2)=false:=fun h=>by
     have:=mixb_le h
     exact ⟨by unfold scV; rw [this]; rfl,this⟩
   have hne:¬id=m:=by omega
   have hml:=mixv_len (j:=j) (k:=k) (xs:=xs) (ys:=ys) (i:=i)
   rw [hb,Bool.true_and,hok] at g2
   cases c1:(mulL j xs[i]).2 <;> rw [c1] at x13 g2
   · obtain ⟨y1,y2⟩:=hbad (by rw [g2]; rfl)
     simp [x13]
     refine hret _ _ _ ?_
     simp [y1,y2,intsR]
   cases c2:(mulL k ys[i]).2 <;> rw [c2] at x15 g2
   · obtain ⟨y1,y2⟩:=hbad (by rw [g2]; rfl)
     simp [x13,x15]
     refine hret _ _ _ ?_
     simp [y1,y2,intsR]
   cases c3:(addL (mulL j xs[i]).1 (mulL k ys[i]).1).2 <;> rw [c3] at s17 g2
   · obtain ⟨y1,y2⟩:=hbad (by rw [g2]; rfl)
     simp [x13,x15,s17]
     refine hret _ _ _ ?_
     simp [y1,y2,intsR]
   simp [x13,x15,s17,scd,x10,s16,eid,hne]
   refine ⟨fun e=>hne e.symm,by unfold LIM; omega,?_⟩
   simp [hk4,hk3,hk2,hk1,s11,hw]
   have ht:mixb j xs k ys (i+1)=true:=by rw [g2]; rfl
   refine hR _ _ _ (by simp [hk4,hk3,hk2,hk1,hk]) (by simp) ⟨ht,m+1,by omega,by rw [g1]; simp,by rw [g1]; simp [intsR]⟩
 · rintro st h m R hk s11 ⟨hb,id,hid,s10,eid⟩ hret hX
   simp at hk
   obtain ⟨g1,g2⟩:=mix_all (j:=j) (k:=k) (xs:=xs) (ys:=ys) hy
   rw [g1] at s10 eid
   rw [g2] at hb
   have hv:scV j xs k ys=(mixs j xs k ys).map (·.1):=by unfold scV; rw [hb]; rfl
   refine rC_seqI (rC_cut [10] (fun s=>s 22 = .bool false) (by simp [hk,s11]) ?_)
   intro st1 hk1 s22
   simp at hk1
   refine rC_stop1 s22 ?_
   refine hX _ _ _ _ ?_
   rw [hv,hb]
   have ht:List.take (mixs j xs k ys).length (intsR ((mixs j xs k ys).map (·.1)))=intsR ((mixs j xs k ys).map (·.1)):=List.take_of_length_le (by simp)
   simp [sc3,hk1,s10,eid,ht]
end Go.Proofs.Ytoclolkigjbcgaa

namespace Go.Proofs.Ytoclolkigjbcgaa
set_option linter.all false
open Go Go.RowKit Go.Proofs
def jn0:AC:=(.reg [⟨some 3,.boxv (.t 0),no⟩,⟨some 4,.boxv (.t 1),no⟩,⟨some 6,.box [(.int .i64 0),(.nil 1),(.nil 1)],no⟩,⟨some 7,.mv (.k (.bool false)),no⟩])
def jn1:AC:=(.reg [⟨some 17,.fld 0 (.t 3),no⟩,⟨some 18,.fld 1 (.t 17),no⟩,⟨some 19,.ld false 1 (.t 18),no⟩,⟨some 20,.mv (.t 2),no⟩,⟨some 21,.ixa 1 (.t 19) (.t 20),no⟩,⟨some 22,.ld false 1 (.t 21),no⟩,⟨some 8,.mv (.t 22),no⟩])
def jn2:AC:=(.reg [⟨some 23,.fld 0 (.t 4),no⟩,⟨some 24,.fld 1 (.t 23),no⟩,⟨some 25,.ld false 1 (.t 24),no⟩,⟨some 26,.mv (.t 2),no⟩,⟨some 27,.ixa 1 (.t 25) (.t 26),no⟩,⟨some 28,.ld false 1 (.t 27),no⟩,⟨some 29,.bin .sub (.k (.int .i64 0)) (.t 28),no⟩,⟨some 9,.mv (.t 29),no⟩])
def jn3:AC:=(.reg [⟨some 30,.mv (.t 8),no⟩,⟨some 31,.mv (.t 9),no⟩,⟨some 32,.call (.k (.fn (.func 65) [] [])) [.t 30,.t 31],no⟩,⟨some 33,.call (.k (.fn (.func 64) [] [])) [.t 32,(.k (.int .i64 1))],no⟩,⟨some 10,.mv (.t 33),no⟩])
def jn4:AC:=(.draw (.op ⟨some 35,.fld 0 (.t 3),no⟩ (.op ⟨some 36,.fld 1 (.t 35),no⟩ (.op ⟨some 37,.ld false 1 (.t 36),no⟩ (.op ⟨some 38,.len false (.t 37),no⟩ (.op ⟨some 41,.mv (.t 9),no⟩ (.op ⟨some 42,.mv (.t 10),no⟩ (.op ⟨some 43,.bin .quo (.t 41) (.t 42),no⟩ (.op ⟨some 44,.fld 0 (.t 3),no⟩ (.op ⟨some 45,.ld true 2 (.t 44),no⟩ (.both (.op ⟨some 39,.mks 8 [(.int .i64 0)] (.t 38) (.t 38),no⟩ (.op ⟨some 40,.build [(.int .i64 0),(.nil 1)] [(1,(1,(.t 39)))],no⟩ (.both (.op ⟨some 46,.call (.k (.fn (.func 26) [] [])) [.t 40,.t 43,.t 45],no⟩ (.op ⟨some 34,.mv (.t 46),no⟩ (.op ⟨some 47,.ext (.t 34) 0,no⟩ (.op ⟨some 48,.ext (.t 34) 1,no⟩ (.op ⟨some 11,.box [(.int .i64 0),(.nil 1)],no⟩ (.hop ⟨no,.st 2 (.t 11) (.t 47),no⟩ [] (.op ⟨some 12,.mv (.t 48),no⟩ .fin))))))) (.op ⟨some 11,.box [(.int .i64 0),(.nil 1)],no⟩ (.op ⟨some 46,.call (.k (.fn (.func 26) [] [])) [.t 40,.t 43,.t 45],no⟩ (.op ⟨some 34,.mv (.t 46),no⟩ (.op ⟨some 47,.ext (.t 34) 0,no⟩ (.op ⟨some 48,.ext (.t 34) 1,no⟩ (.hop ⟨no,.st 2 (.t 11) (.t 47),no⟩ [] (.op ⟨some 12,.mv (.t 48),no⟩ .fin)))))))))) (.op ⟨some 11,.box [(.int .i64 0),(.nil 1)],no⟩ (.op ⟨some 39,.mks 8 [(.int .i64 0)] (.t 38) (.t 38),no⟩ (.op ⟨some 40,.build [(.int .i64 0),(.nil 1)] [(1,(1,(.t 39)))],no⟩ (.op ⟨some 46,.call (.k (.fn (.func 26) [] [])) [.t 40,.t 43,.t 45],no⟩ (.op ⟨some 34,.mv (.t 46),no⟩ (.op ⟨some 47,.ext (.t 34) 0,no⟩ (.op ⟨some 48,.ext (.t 34) 1,no⟩ (.hop ⟨no,.st 2 (.t 11) (.t 47),no⟩ [] (.op ⟨some 12,.mv (.t 48),no⟩ .fin))))))))))))))))))))
def jn5:AC:=(.draw (.op ⟨some 50,.ld true 2 (.t 11),no⟩ (.op ⟨some 51,.mv (.t 8),no⟩ (.op ⟨some 52,.mv (.t 10),no⟩ (.op ⟨some 53,.bin .quo (.t 51) (.t 52),no⟩ (.op ⟨some 54,.fld 0 (.t 4),no⟩ (.op ⟨some 55,.ld true 2 (.t 54),no⟩ (.both (.op ⟨some 56,.call (.k (.fn (.func 26) [] [])) [.t 50,.t 53,.t 55],no⟩ (.op ⟨some 49,.mv (.t 56),no⟩ (.op ⟨some 57,.ext (.t 49) 0,no⟩ (.op ⟨some 58,.ext (.t 49) 1,no⟩ (.op ⟨some 13,.box [(.int .i64 0),(.nil 1)],no⟩ (.hop ⟨no,.st 2 (.t 13) (.t 57),no⟩ [] (.op ⟨some 14,.mv (.t 58),no⟩ .fin))))))) (.op ⟨some 13,.box [(.int .i64 0),(.nil 1)],no⟩ (.op ⟨some 56,.call (.k (.fn (.func 26) [] [])) [.t 50,.t 53,.t 55],no⟩ (.op ⟨some 49,.mv (.t 56),no⟩ (.op ⟨some 57,.ext (.t 49) 0,no⟩ (.op ⟨some 58,.ext (.t 49) 1,no⟩ (.hop ⟨no,.st 2 (.t 13) (.t 57),no⟩ [] (.op ⟨some 14,.mv (.t 58),no⟩ .fin)))))))))))))))
def jn6:AC:=(.draw (.op ⟨some 60,.fld 2 (.t 3),no⟩ (.op ⟨some 61,.ld false 1 (.t 60),no⟩ (.op ⟨some 62,.mv (.t 9),no⟩ (.op ⟨some 63,.mv (.t 10),no⟩ (.op ⟨some 64,.bin .quo (.t 62) (.t 63),no⟩ (.op ⟨some 65,.fld 2 (.t 4),no⟩ (.op ⟨some 66,.ld false 1 (.t 65),no⟩ (.op ⟨some 67,.mv (.t 8),no⟩ (.op ⟨some 68,.mv (.t 10),no⟩ (.op ⟨some 69,.bin .quo (.t 67) (.t 68),no⟩ (.op ⟨some 70,.call (.k (.fn (.func 66) [] [])) [.t 61,.t 64,.t 66,.t 69],no⟩ (.op ⟨some 59,.mv (.t 70),no⟩ (.op ⟨some 71,.ext (.t 59) 0,no⟩ (.op ⟨some 72,.ext (.t 59) 1,no⟩ (.op ⟨some 15,.mv (.t 71),no⟩ (.op ⟨some 16,.mv (.t 72),no⟩ .fin)))))))))))))))))
def jn7:AC:=(.reg [⟨some 73,.ld true 2 (.t 13),no⟩,⟨some 74,.mv (.t 15),no⟩,⟨some 75,.build [(.int .i64 0),(.nil 1),(.nil 1)] [(0,(2,(.t 73))),(2,(1,(.t 74)))],no⟩,⟨some 76,.mv (.t 12),no⟩,⟨some 77,.mv (.t 76),no⟩,⟨some 78,.mv (.t 14),(some (77,true))⟩,⟨some 79,.pick (.t 77) (.t 78) (.k (.bool false)),no⟩,⟨some 80,.mv (.t 79),no⟩,⟨some 81,.mv (.t 16),(some (80,true))⟩,⟨some 82,.pick (.t 80) (.t 81) (.k (.bool false)),no⟩,⟨no,.st 3 (.t 6) (.t 75),no⟩,⟨some 7,.mv (.t 82),no⟩])
def a46:AFn:=⟨83,[(.c 6 true 3),.t 7],(.seq jn0 (.seq jn1 (.seq jn2 (.seq jn3 (.seq jn4 (.seq jn5 (.seq jn6 (.seq jn7 .ret))))))))⟩
theorem a46_ok:compFnX true Try.prog Try.f46=some a46:=by kernel_rfl
set_option maxRecDepth 20000
set_option maxHeartbeats 2000000
theorem mixs_snoc {j k s t:Int} {xs ys:List Int} (h:ys.length=xs.length):mixs j (xs++[s]) k (ys++[t])=mixs j xs k ys++[mixI j s k t]:=by
 unfold mixs
 rw [List.zipWith_append h.symm]; rfl
theorem bwA {c:Int} {l:List Int} {v:AV} {h:Heap} (x:Go.Proofs.Ytoclolkigjbcgaa.bw v h=some (.sl 1 (intsR l))):Go.Proofs.Ytoclolkigjbcgaa.bw (.agg [.int .i64 c,v]) h=some (.agg (rALin ⟨c,l⟩)):=by
 simp only [Go.Proofs.Ytoclolkigjbcgaa.bw,bwl,x]; rfl
section
variable {ks:List Kt} {s:Env} {h h':Heap} {n:Nat} {Q:Fin}
theorem jn4_run {a:DDer} {va ma:AV} {N m k3:Nat} {q g:Int} (ga:GD N m a) (hq:0≤q∧q≤1000000000) (hg0:0<g) (s3:s 3 = .ptr k3 0 0) (s9:s 9 = .int .i64 q) (s10:s 10 = .int .i64 g) (e3:h k3=some ⟨true,3,[[.int .i64 a.l.Const,va,ma]]⟩) (A1:SVi a.l.Coeffs va h n)
   (hK:∀ s' h' n' k r,(∀ i∈[3,4,6,8,9,10],s' i=s i)→n≤n'→(∀ id,id<n→h' id=h id)→s' 12 = .bool (addScaled (constLin 0 a.l.Coeffs.length) (q.tdiv g) a.l).isSome→s' 11 = .ptr k 0 0→LinQ ((addScaled (constLin 0 a.l.Coeffs.length) (q.tdiv g) a.l).getD lin0) k r h' n n'→kont Try.prog ks .normal s' h' n' Q):rC Try.prog jn4 ks s h n Q:=by
 have fr:∀ id,id<n→¬id=n∧¬id=n+1∧¬id=n+2∧¬id=n+1+1:=by intro id _; omega
 have ne:¬n=n+1∧¬n+1=n∧¬n=n+1+1∧¬n+1+1=n∧¬n+1=n+1+1∧¬n+1+1=n+1:=by omega
 have w1:=tdiv_in (g:=g) hq.1 hq.2 (by omega)
 have v1:IntKind.i64.wrap (q.tdiv g)=q.tdiv g:=wrap64 (by omega)
 have hgn:¬g=0:=by omega
 have h8:=okLin_len ga.ok
 have hcl:=ga.cl
 have hc0:constLin 0 (a.l.Coeffs.length:Int)=⟨0,List.replicate a.l.Coeffs.length 0⟩:=(constLin_ok (by decide) (by omega)).1
 have hz:=zero_rows0 (m:=a.l.Coeffs.length)
 have hz0:=hz
 simp only [i64] at hz0
 have hcall:∀ {H:Heap} {M z:Nat} {K:AV→Heap→Nat→Prop},H z=some ⟨false,1,List.replicate a.l.Coeffs.length [.int .i64 0]⟩→Keeps h H n→(∀ T,T=addScaled (constLin 0 a.l.Coeffs.length) (q.tdiv g) a.l→K (.tup [.agg [.int .i64 (T.getD lin0).Const,.ref M 0 (T.getD lin0).Coeffs.length],.bool T.isSome]) (upd H M (some ⟨false,1,intsR (T.getD lin0).Coeffs⟩)) (M+1))→ACall Try.prog 26 [.agg [.int .i64 0,.ref z 0 a.l.Coeffs.length],i64 (q.tdiv g),.agg [.int .i64 a.l.Const,va]] H M (Go.Proofs.Ytoclolkigjbcgaa.hK H K):=by
   intro H M z K hH hkp hk
   refine callD_of (ks_AddScaled (constLin 0 a.l.Coeffs.length) (q.tdiv g) a.l) ?_ ?_
   · have hb:bw (.ref z 0 a.l.Coeffs.length) H=some (.sl 1 (intsR (List.replicate a.l.Coeffs.length 0))):=by
       simp [hH]
       rw [hz0]
       exact drr_intsR _
     rw [hc0]
     simp only [bwl,bwA hb,bwA (A1.bwk hkp)]
     rfl
   · rintro r rfl
     rw [optLin_eq]
     have:=hk _ rfl
     simpa [rULin] using this
 simp [jn4,s3,s9,s10,e3]
 refine lenW_svi A1 ?_
 simp [hgn,v1,s3,e3,s9,s10]
 have hkp1:∀ y,Keeps h (upd h n y) n:=fun y=>Keeps.of fun id hid=>by simp [fr id hid]
 have hkp2:∀ y z,Keeps h (upd (upd h n y) (n+1) z) n:=fun y z=>Keeps.of fun id hid=>by simp [fr id hid]
 refine ⟨⟨by unfold LIM; omega,?_,?_⟩,by unfold LIM; omega,?_⟩
 · refine hcall (z:=n) (by simp) (hkp1 _) ?_
   intro T hT
   simp [ne]
   rw [←hT] at hK
   exact hK _ _ _ (n+1+1) (n+1) (by simp) (by omega) (fun id hid=>by simp [fr id hid]) (by simp) (by simp) ⟨by omega,by omega,by omega,by omega,by omega,by simp,by simp [ne]⟩
 · refine hcall (z:=n) (by simp [ne]) (hkp2 _ _) ?_
   intro T hT
   simp [ne]
   rw [←hT] at hK
   exact hK _ _ _ (n+1) (n+1+1) (by simp) (by omega) (fun id hid=>by simp [fr id hid]) (by simp) (by simp) ⟨by omega,by omega,by omega,by omega,by omega,by simp [ne],by simp [ne]⟩
 · refine hcall (z:=n+1) (by simp [ne]) (hkp2 _ _) ?_
   intro T hT
   simp [ne]
   rw [←hT] at hK
   exact hK _ _ _ n (n+1+1) (by simp) (by omega) (fun id hid=>by simp [fr id hid]) (by simp) (by simp) ⟨by omega,by omega,by omega,by omega,by omega,by simp [ne],by simp [ne]⟩
theorem jn5_run {b:DDer} {vb mb:AV} {N m k4 k11 q11 lo:Nat} {p g:Int} {l:DLin} (hp:0≤p∧p≤1000000000) (hg0:0<g) (s4:s 4 = .ptr k4 0 0) (s8:s 8 = .int .i64 p) (s10:s 10 = .int .i64 g) (s11:s 11 = .ptr k11 0 0) (e4:h k4=some ⟨true,3,[[.int .i64 b.l.Const,vb,mb]]⟩) (L:LinQ l k11 q11 h lo n) (B1:SVi b.l.Coeffs vb h n)
   (hK:∀ s' h' n' k r,(∀ i∈[3,4,6,8,9,10,12],s' i=s i)→n≤n'→(∀ id,id<n→h' id=h id)→s' 14 = .bool (addScaled l (p.tdiv g) b.l).isSome→s' 13 = .ptr k 0 0→LinQ ((addScaled l (p.tdiv g) b.l).getD lin0) k r h' n n'→kont Try.prog ks .normal s' h' n' Q):rC Try.prog jn5 ks s h n Q:=by
 obtain ⟨l1,l2,l3,l4,l5,l6,l7⟩:=L
 have fr:∀ id,id<n→¬id=n∧¬id=n+1∧¬id=n+2∧¬id=n+1+1:=by intro id _; omega
 have ne:¬n=n+1∧¬n+1=n∧¬n=n+1+1∧¬n+1+1=n∧¬n+1=n+1+1∧¬n+1+1=n+1:=by omega
 have w1:=tdiv_in (g:=g) hp.1 hp.2 (by omega)
 have v1:IntKind.i64.wrap (p.tdiv g)=p.tdiv g:=wrap64 (by omega)
 have hgn:¬g=0:=by omega
 have hcall:∀ {H:Heap} {M:Nat} {K:AV→Heap→Nat→Prop},Keeps h H n→(∀ T,T=addScaled l (p.tdiv g) b.l→K (.tup [.agg [.int .i64 (T.getD lin0).Const,.ref M 0 (T.getD lin0).Coeffs.length],.bool T.isSome]) (upd H M (some ⟨false,1,intsR (T.getD lin0).Coeffs⟩)) (M+1))→ACall Try.prog 26 [.agg [.int .i64 l.Const,.ref q11 0 l.Coeffs.length],i64 (p.tdiv g),.agg [.int .i64 b.l.Const,vb]] H M (Go.Proofs.Ytoclolkigjbcgaa.hK H K):=by
   intro H M K hkp hk
   refine callD_of (ks_AddScaled l (p.tdiv g) b.l) ?_ ?_
   · have hb:bw (.ref q11 0 l.Coeffs.length) H=some (.sl 1 (intsR l.Coeffs)):=by
       have:=hkp q11 _ _ l4 l7
       simp [this]
     simp only [bwl,bwA hb,bwA (B1.bwk hkp)]
     rfl
   · rintro r rfl
     rw [optLin_eq]
     have:=hk _ rfl
     simpa [rULin] using this
 simp [jn5,s4,s8,s10,s11,e4,l6,hgn,v1]
 refine ⟨?_,?_⟩
 · refine hcall (Keeps.of fun _ _=>rfl) ?_
   intro T hT
   simp [ne]
   rw [←hT] at hK
   exact hK _ _ _ (n+1) n (by simp) (by omega) (fun id hid=>by simp [fr id hid]) (by simp) (by simp) ⟨by omega,by omega,by omega,by omega,by omega,by simp,by simp [ne]⟩
 · refine hcall (Keeps.of fun id hid=>by simp [fr id hid]) ?_
   intro T hT
   simp [ne]
   rw [←hT] at hK
   exact hK _ _ _ n (n+1) (by simp) (by omega) (fun id hid=>by simp [fr id hid]) (by simp) (by simp) ⟨by omega,by omega,by omega,by omega,by omega,by simp [ne],by simp [ne]⟩
end
end Go.Proofs.Ytoclolkigjbcgaa

namespace Go.Proofs.Ytoclolkigjbcgaa
set_option linter.all false
open Go Go.RowKit Go.Proofs
def a64:AFn:=
⟨10,[.t 4],(.seq
 (.reg [⟨some 4,.mv (.k (.int .i64 0)),no⟩]) (.seq (.seq
 (.reg [⟨some 5,.mv (.t 0),no⟩,⟨some 6,.mv (.t 1),no⟩,⟨some 7,.bin .gtr (.t 5) (.t 6),no⟩]) (.cond (.t 7) (.seq
 (.reg [⟨some 8,.mv (.t 0),no⟩,⟨some 4,.mv (.t 8),no⟩]) .ret) .skip)) (.seq
 (.reg [⟨some 9,.mv (.t 1),no⟩,⟨some 4,.mv (.t 9),no⟩]) .ret)))⟩
theorem a64_ok:compFn Try.prog Try.f64=some a64:=by kernel_rfl
def AccV (b z:Nat) (rows:List (List AV)) (v:AV) (h:Heap) (n:Nat):Prop:=(rows=[]∧v = .nil z)∨∃ id,b<id∧id<n∧v = .ref id 0 rows.length∧h id=some ⟨false,z,rows⟩
theorem AccV.keep {b z:Nat} {rows:List (List AV)} {v:AV} {h h':Heap} {n n':Nat} (x:AccV b z rows v h n) (hn:n≤n') (hh:∀ id,b<id→id<n→v = .ref id 0 rows.length→h' id=h id):AccV b z rows v h' n':=
 x.imp (fun y=>y) fun ⟨i,h1,h2,h3,h4⟩=>⟨i,h1,by omega,h3,by rw [hh i h1 h2 h3]; exact h4⟩
theorem AccV.dt {b z:Nat} {rows:List (List AV)} {v:AV} {h:Heap} {n:Nat} (x:AccV b z rows v h n):∃ h',Go.Proofs.Ytoclolkigjbcgaa.dt v h=some (.us z rows,h')∧∀ id,(∀ l,v ≠ .ref id 0 l)→h' id=h id:=by
 rcases x with ⟨rfl,rfl⟩ | ⟨i,_,_,rfl,hb⟩
 · exact ⟨h,by simp,fun _ _=>rfl⟩
 · refine ⟨upd h i Option.none,by simp [hb],fun id hid => ?_⟩
   have:¬id=i:=fun e=>hid rows.length (by rw [e])
   simp [this]
theorem appV_acc {b z bytes k:Nat} {rows rows2:List (List AV)} {v:AV} {h:Heap} {n:Nat} {K:AV→Heap→Nat→Prop} (A:AccV b z rows v h n) (hk:h k=some ⟨false,z,rows2⟩) (hvk:∀ l,v ≠ .ref k 0 l) (hkn:k<n)
   (hlen:(rows.length+rows2.length)*bytes≤LIM)
   (hK:∀ h',h' n=some ⟨false,z,rows++rows2⟩→(∀ id,id≠n→id≠k→(∀ l,v ≠ .ref id 0 l)→h' id=h id)→K (.ref n 0 (rows.length+rows2.length)) h' (n+1)) :
   appV bytes z v (.ref k 0 rows2.length) h n K:=by
 rcases A with ⟨rfl,rfl⟩ | ⟨i,_,hin,rfl,hib⟩
 · simp [hk]
   refine ⟨by simpa using hlen,?_⟩
   have:k≠n:=by omega
   simp at hK
   exact hK _ (by simp) fun id h1 h2=>by simp [h1,h2]
 · have hki:¬k=i:=fun e=>hvk _ (by rw [e])
   have hik:¬i=k:=fun e=>hki e.symm
   have hne:¬i=n:=by omega
   simp [hk,hib,hki,hik]
   refine ⟨hlen,?_⟩
   refine hK _ (by simp [List.take_of_length_le]) fun id h1 h2 h3 => ?_
   have:¬id=i:=fun e=>h3 _ (by rw [e])
   simp [h1,h2,this]
theorem ks_l1Max (x y:Int):Holds Try.prog 64 [i64 x,i64 y] (fun r=>r=i64 (if x>y then x else y)):=by
 refine holds_of_run Try.func64 a64_ok rfl (by simp [a64]) ?_
 simp [a64]
 refine ⟨fun _ _=>by omega,fun _ _=>by omega⟩
end Go.Proofs.Ytoclolkigjbcgaa
