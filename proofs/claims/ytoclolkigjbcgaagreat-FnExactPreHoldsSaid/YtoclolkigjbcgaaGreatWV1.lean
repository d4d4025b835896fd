/- Contracts: names. -/
import Derived.Test.YtoclolkigjbcgaaGreatWC13
import Derived.Test.YtoclolkigjbcgaaGreatWC9
namespace Go.Proofs.YtoclolkigjbcgaaGreat
set_option maxRecDepth 40000
set_option maxHeartbeats 4000000
open Go Go.RowKit Go.Proofs
set_option linter.all false
def a230:AFn:= ⟨10,[.t 2],(.seq (.reg [Zo 2 (.mv (.k (.bool false)))]) (.seq (.seq (.reg [Zv 3 0]) (.blk 0 (.seq (.seq (.reg [Zo 5 (.bin .eql (.t 3) (.k (.str [102,117,110]))),Zv 4 5]) (.cond (.t 4) .skip (.seq (.reg [Zo 6 (.bin .eql (.t 3) (.k (.str [112,114,101]))),Zv 4 6]) (.cond (.t 4) .skip (.seq (.reg [Zo 7 (.bin .eql (.t 3) (.k (.str [114,117,108,101]))),Zv 4 7]) (.cond (.t 4) .skip (.seq (.reg [Zo 8 (.bin .eql (.t 3) (.k (.str [114,101,116,117,114,110]))),Zv 4 8]) (.cond (.t 4) .skip (.reg [Zo 9 (.bin .eql (.t 3) (.k (.str [110,105,108]))),Zv 4 9]))))))))) (.cond (.t 4) (.seq (.reg [Zo 2 (.mv (.k (.bool true)))]) .ret) .skip)))) (.seq (.reg [Zo 2 (.mv (.k (.bool false)))]) .ret)))⟩
theorem a230_ok:J0a Tryz.prog Tryz.f230=some a230:=by kernel_rfl
def a224:AFn:= ⟨18,[.t 4],(.seq (.reg [Zo 4 (.mv (.k (.bool false)))]) (.seq (.seq (.reg [Zo 5 (.mv (.k (.int .i64 0)))]) (.blk 0 (.loop (.seq (.seq (.reg [Zv 6 5,Zv 7 0,Zo 8 (.len false (.t 7)),Zo 9 (.bin .lss (.t 6) (.t 8))]) (.cond (.t 9) .skip (.exit 0))) (.seq (.blk 1 (.seq (.reg [Zv 12 0,Zv 13 5,Zo 14 (.ixa 1 (.t 12) (.t 13)),Zl 15 false 1 14,Zv 16 1,Zo 17 (.bin .eql (.t 15) (.t 16))]) (.cond (.t 17) (.seq (.reg [Zo 4 (.mv (.k (.bool true)))]) .ret) .skip))) (.reg [Zv 10 5,Zo 11 (.bin .add (.t 10) (.k (.int .i64 1))),Zv 5 11])))))) (.seq (.reg [Zo 4 (.mv (.k (.bool false)))]) .ret)))⟩
theorem a224_ok:J0a Tryz.prog Tryz.f224=some a224:=by kernel_rfl
def a153:AFn:= ⟨19,[.t 4],(.seq (.reg [Zo 4 (.mv (.k (.int .i64 0)))]) (.seq (.seq (.reg [Zv 6 0,Zo 7 (.len false (.t 6)),Zo 8 (.mv (.k (.int .i64 0)))]) (.blk 0 (.loop (.seq (.reg [Zo 9 (.bin .lss (.t 8) (.t 7))]) (.seq (.cond (.t 9) .skip (.exit 0)) (.seq (.blk 1 (.seq (.reg [Zv 10 8,Zv 5 10]) (.seq (.reg [Zv 11 1,Zv 12 0,Zv 13 5,Zo 14 (.ixa 1 (.t 12) (.t 13)),Zl 15 false 1 14,Zo 16 (.bin .eql (.t 11) (.t 15))]) (.cond (.t 16) (.seq (.reg [Zv 17 5,Zv 4 17]) .ret) .skip)))) (.reg [Zo 18 (.bin .add (.t 8) (.k (.int .i64 1))),Zv 8 18]))))))) (.seq (.reg [Zo 4 (.mv (.k (.int .i64 (-1))))]) .ret)))⟩
theorem a153_ok:J0a Tryz.prog Tryz.f153=some a153:=by kernel_rfl
def a72:AFn:= ⟨9,[.t 4],(.seq (.reg [Zo 4 (.mv (.k (.bool false)))]) (.seq (.reg [Zv 5 0,Zv 6 1,Zc 7 153 [.t 5,.t 6],Zo 8 (.bin .geq (.t 7) (.k (.int .i64 0))),Zv 4 8]) .ret))⟩
theorem a72_ok:J0a Tryz.prog Tryz.f72=some a72:=by kernel_rfl
def a63:AFn:= ⟨19,[.t 4],(.seq (.reg [Zo 4 (.mv (.k (.int .i64 0)))]) (.seq (.seq (.reg [Zo 5 (.mv (.k (.int .i64 0)))]) (.blk 0 (.loop (.seq (.seq (.reg [Zv 6 5,Zv 7 0,Zo 8 (.len false (.t 7)),Zo 9 (.bin .lss (.t 6) (.t 8))]) (.cond (.t 9) .skip (.exit 0))) (.seq (.blk 1 (.seq (.reg [Zv 12 0,Zv 13 5,Zo 14 (.ixa 1 (.t 12) (.t 13)),Zl 15 false 1 14,Zv 16 1,Zo 17 (.bin .eql (.t 15) (.t 16))]) (.cond (.t 17) (.seq (.reg [Zv 18 5,Zv 4 18]) .ret) .skip))) (.reg [Zv 10 5,Zo 11 (.bin .add (.t 10) (.k (.int .i64 1))),Zv 5 11])))))) (.seq (.reg [Zo 4 (.mv (.k (.int .i64 (-1))))]) .ret)))⟩
theorem a63_ok:J0a Tryz.prog Tryz.f63=some a63:=by kernel_rfl
def a333:AFn:= ⟨2,[.t 0],(.seq (.reg [Zo 0 (.mv (.k (.nil 1)))]) (.seq (.reg [Zo 1 (.bsl 1 [(.k (.str [102,117,110])),(.k (.str [112,114,101])),(.k (.str [114,117,108,101])),(.k (.str [114,101,116,117,114,110])),(.k (.str [110,105,108]))]),Zv 0 1]) .ret))⟩
theorem a333_ok:J0a Tryz.prog Tryz.f333=some a333:=by kernel_rfl
def a317:AFn:= ⟨6,[.t 2],(.seq (.reg [Zo 2 (.mv (.k (.bool false)))]) (.seq (.reg [Zc 3 333 [],Zv 4 0,Zc 5 224 [.t 3,.t 4],Zv 2 5]) .ret))⟩
theorem a317_ok:J0a Tryz.prog Tryz.f317=some a317:=by kernel_rfl
def a143:AFn:= ⟨50,[.t 2],(.seq (.reg [Zo 2 (.mv (.k (.bool false)))]) (.seq (.seq (.reg [Zv 6 0,Zo 7 (.len true (.t 6)),Zc 8 102 [.t 7,(.k (.int .i64 1)),(.k (.int .i64 8))],Zo 9 (.un .not (.t 8)),Zv 10 9,⟨some 11,.mv (.t 0),(some (10,false))⟩,⟨some 12,.call (.k (.fn (.func 230) [] [])) [.t 11],(some (10,false))⟩,Zo 13 (.pick (.t 10) (.k (.bool true)) (.t 12))]) (.cond (.t 13) (.seq (.reg [Zo 2 (.mv (.k (.bool false)))]) .ret) .skip)) (.seq (.seq (.reg [Zo 3 (.mv (.k (.int .i64 0)))]) (.blk 0 (.loop (.seq (.seq (.reg [Zv 14 3,Zv 15 0,Zo 16 (.len true (.t 15)),Zo 17 (.bin .lss (.t 14) (.t 16))]) (.cond (.t 17) .skip (.exit 0))) (.seq (.blk 1 (.seq (.reg [Zv 20 0,Zv 21 3,Zo 22 (.ixs (.t 20) (.t 21)),Zo 23 (.bin .geq (.t 22) (.k (.int .u8 97))),Zv 24 23,⟨some 25,.mv (.t 0),(some (24,true))⟩,⟨some 26,.mv (.t 3),(some (24,true))⟩,⟨some 27,.ixs (.t 25) (.t 26),(some (24,true))⟩,⟨some 28,.bin .leq (.t 27) (.k (.int .u8 122)),(some (24,true))⟩,Zo 29 (.pick (.t 24) (.t 28) (.k (.bool false))),Zv 4 29]) (.seq (.reg [Zv 30 0,Zv 31 3,Zo 32 (.ixs (.t 30) (.t 31)),Zo 33 (.bin .geq (.t 32) (.k (.int .u8 48))),Zv 34 33,⟨some 35,.mv (.t 0),(some (34,true))⟩,⟨some 36,.mv (.t 3),(some (34,true))⟩,⟨some 37,.ixs (.t 35) (.t 36),(some (34,true))⟩,⟨some 38,.bin .leq (.t 37) (.k (.int .u8 57)),(some (34,true))⟩,Zo 39 (.pick (.t 34) (.t 38) (.k (.bool false))),Zv 5 39]) (.seq (.reg [Zv 40 4,Zo 41 (.un .not (.t 40)),Zv 42 41,⟨some 43,.mv (.t 5),(some (42,true))⟩,⟨some 44,.mv (.t 43),(some (42,true))⟩,⟨some 45,.mv (.t 3),(some (44,true))⟩,⟨some 46,.bin .gtr (.t 45) (.k (.int .i64 0)),(some (44,true))⟩,⟨some 47,.pick (.t 44) (.t 46) (.k (.bool false)),(some (42,true))⟩,⟨some 48,.un .not (.t 47),(some (42,true))⟩,Zo 49 (.pick (.t 42) (.t 48) (.k (.bool false)))]) (.cond (.t 49) (.seq (.reg [Zo 2 (.mv (.k (.bool false)))]) .ret) .skip))))) (.reg [Zv 18 3,Zo 19 (.bin .add (.t 18) (.k (.int .i64 1))),Zv 3 19])))))) (.seq (.reg [Zo 2 (.mv (.k (.bool true)))]) .ret))))⟩
theorem a143_ok:J0a Tryz.prog Tryz.f143=some a143:=by kernel_rfl
def a316:AFn:= ⟨45,[.t 2],(.seq (.reg [Zo 2 (.mv (.k (.bool false)))]) (.seq (.seq (.reg [Zo 3 (.mv (.k (.int .i64 0)))]) (.blk 0 (.loop (.seq (.seq (.reg [Zv 6 3,Zv 7 0,Zo 8 (.len true (.t 7)),Zo 9 (.bin .lss (.t 6) (.t 8))]) (.cond (.t 9) .skip (.exit 0))) (.seq (.blk 1 (.seq (.reg [Zv 12 0,Zv 13 3,Zo 14 (.ixs (.t 12) (.t 13)),Zo 15 (.bin .geq (.t 14) (.k (.int .u8 97))),Zv 16 15,⟨some 17,.mv (.t 0),(some (16,true))⟩,⟨some 18,.mv (.t 3),(some (16,true))⟩,⟨some 19,.ixs (.t 17) (.t 18),(some (16,true))⟩,⟨some 20,.bin .leq (.t 19) (.k (.int .u8 122)),(some (16,true))⟩,Zo 21 (.pick (.t 16) (.t 20) (.k (.bool false))),Zv 4 21]) (.seq (.reg [Zv 22 0,Zv 23 3,Zo 24 (.ixs (.t 22) (.t 23)),Zo 25 (.bin .geq (.t 24) (.k (.int .u8 48))),Zv 26 25,⟨some 27,.mv (.t 0),(some (26,true))⟩,⟨some 28,.mv (.t 3),(some (26,true))⟩,⟨some 29,.ixs (.t 27) (.t 28),(some (26,true))⟩,⟨some 30,.bin .leq (.t 29) (.k (.int .u8 57)),(some (26,true))⟩,Zo 31 (.pick (.t 26) (.t 30) (.k (.bool false))),Zv 5 31]) (.seq (.reg [Zv 32 4,Zo 33 (.un .not (.t 32)),Zv 34 33,⟨some 35,.mv (.t 3),(some (34,true))⟩,⟨some 36,.bin .eql (.t 35) (.k (.int .i64 0)),(some (34,true))⟩,⟨some 37,.mv (.t 36),(some (34,true))⟩,⟨some 38,.mv (.t 5),(some (37,false))⟩,⟨some 39,.un .not (.t 38),(some (37,false))⟩,⟨some 40,.pick (.t 37) (.k (.bool true)) (.t 39),(some (34,true))⟩,Zo 41 (.pick (.t 34) (.t 40) (.k (.bool false)))]) (.cond (.t 41) (.seq (.reg [Zo 2 (.mv (.k (.bool false)))]) .ret) .skip))))) (.reg [Zv 10 3,Zo 11 (.bin .add (.t 10) (.k (.int .i64 1))),Zv 3 11])))))) (.seq (.reg [Zv 42 0,Zo 43 (.len true (.t 42)),Zo 44 (.bin .gtr (.t 43) (.k (.int .i64 0))),Zv 2 44]) .ret)))⟩
theorem a316_ok:J0a Tryz.prog Tryz.f316=some a316:=by kernel_rfl
def a285:AFn:= ⟨15,[.t 2],(.seq (.reg [Zo 2 (.mv (.k (.bool false)))]) (.seq (.reg [Zv 3 0,Zc 4 316 [.t 3],Zv 5 4,⟨some 6,.mv (.t 0),(some (5,true))⟩,⟨some 7,.len true (.t 6),(some (5,true))⟩,⟨some 8,.bin .leq (.t 7) (.k (.int .i64 8)),(some (5,true))⟩,Zo 9 (.pick (.t 5) (.t 8) (.k (.bool false))),Zv 10 9,⟨some 11,.mv (.t 0),(some (10,true))⟩,⟨some 12,.call (.k (.fn (.func 317) [] [])) [.t 11],(some (10,true))⟩,⟨some 13,.un .not (.t 12),(some (10,true))⟩,Zo 14 (.pick (.t 10) (.t 13) (.k (.bool false))),Zv 2 14]) .ret))⟩
theorem a285_ok:J0a Tryz.prog Tryz.f285=some a285:=by kernel_rfl
def a205:AFn:= ⟨13,[.t 2],(.seq (.reg [Zo 2 (.mv (.k (.bool false)))]) (.seq (.reg [Zv 3 0,Zc 4 143 [.t 3],Zv 5 4,⟨some 6,.mv (.t 0),(some (5,true))⟩,⟨some 7,.mv (.t 0),(some (5,true))⟩,⟨some 8,.len true (.t 7),(some (5,true))⟩,⟨some 9,.bin .sub (.t 8) (.k (.int .i64 1)),(some (5,true))⟩,⟨some 10,.ixs (.t 6) (.t 9),(some (5,true))⟩,⟨some 11,.bin .eql (.t 10) (.k (.int .u8 115)),(some (5,true))⟩,Zo 12 (.pick (.t 5) (.t 11) (.k (.bool false))),Zv 2 12]) .ret))⟩
theorem a205_ok:J0a Tryz.prog Tryz.f205=some a205:=by kernel_rfl
def a140:AFn:= ⟨10,[.t 2],(.seq (.reg [Zo 2 (.mv (.k (.bool false)))]) (.seq (.reg [Zv 3 0,Zc 4 143 [.t 3],Zv 5 4,⟨some 6,.mv (.t 0),(some (5,true))⟩,⟨some 7,.call (.k (.fn (.func 205) [] [])) [.t 6],(some (5,true))⟩,⟨some 8,.un .not (.t 7),(some (5,true))⟩,Zo 9 (.pick (.t 5) (.t 8) (.k (.bool false))),Zv 2 9]) .ret))⟩
theorem a140_ok:J0a Tryz.prog Tryz.f140=some a140:=by kernel_rfl
def a260:AFn:= ⟨13,[.t 2],(.seq (.reg [Zo 2 (.mv (.k (.bool false)))]) (.seq (.reg [Zv 3 0,Zc 4 285 [.t 3],Zv 5 4,⟨some 6,.mv (.t 0),(some (5,true))⟩,⟨some 7,.mv (.t 0),(some (5,true))⟩,⟨some 8,.len true (.t 7),(some (5,true))⟩,⟨some 9,.bin .sub (.t 8) (.k (.int .i64 1)),(some (5,true))⟩,⟨some 10,.ixs (.t 6) (.t 9),(some (5,true))⟩,⟨some 11,.bin .eql (.t 10) (.k (.int .u8 115)),(some (5,true))⟩,Zo 12 (.pick (.t 5) (.t 11) (.k (.bool false))),Zv 2 12]) .ret))⟩
theorem a260_ok:J0a Tryz.prog Tryz.f260=some a260:=by kernel_rfl
def a216:AFn:= ⟨10,[.t 2],(.seq (.reg [Zo 2 (.mv (.k (.bool false)))]) (.seq (.reg [Zv 3 0,Zc 4 285 [.t 3],Zv 5 4,⟨some 6,.mv (.t 0),(some (5,true))⟩,⟨some 7,.call (.k (.fn (.func 260) [] [])) [.t 6],(some (5,true))⟩,⟨some 8,.un .not (.t 7),(some (5,true))⟩,Zo 9 (.pick (.t 5) (.t 8) (.k (.bool false))),Zv 2 9]) .ret))⟩
theorem a216_ok:J0a Tryz.prog Tryz.f216=some a216:=by kernel_rfl
theorem Jbz (s:Str):Holds Tryz.prog 230 [.str s] (fun r=>r = .bool (Jmc s)):=by
 by_cases e1:s=[102,117,110]
 ·subst e1
  refine J02 Tryz.func230 a230_ok rfl (by simp [a230]) ?_
  simp [a230,Jmc,J3x,Jee]
 by_cases e2:s=[112,114,101]
 ·subst e2
  refine J02 Tryz.func230 a230_ok rfl (by simp [a230]) ?_
  simp [a230,Jmc,J3x,Jee]
 by_cases e3:s=[114,117,108,101]
 ·subst e3
  refine J02 Tryz.func230 a230_ok rfl (by simp [a230]) ?_
  simp [a230,Jmc,J3x,Jee]
 by_cases e4:s=[114,101,116,117,114,110]
 ·subst e4
  refine J02 Tryz.func230 a230_ok rfl (by simp [a230]) ?_
  simp [a230,Jmc,J3x,Jee]
 by_cases e5:s=[110,105,108]
 ·subst e5
  refine J02 Tryz.func230 a230_ok rfl (by simp [a230]) ?_
  simp [a230,Jmc,J3x,Jee]
 have hr:Jmc s=false:=by simp [Jmc,J3x,Jee,Ne.symm e1,Ne.symm e2,Ne.symm e3,Ne.symm e4,Ne.symm e5]
 rw [hr]
 refine J02 Tryz.func230 a230_ok rfl (by simp [a230]) ?_
 simp [a230,e1,e2,e3,e4,e5]
theorem Jmz {l:List Str}{s:Str}{i:Nat}(hi:i<l.length):J3x (l.drop i) s=((l[i]==s)||J3x (l.drop (i+1)) s):=by
 rw [List.drop_eq_getElem_cons hi];rfl
theorem J98 (l:List Str) (s:Str):Holds Tryz.prog 224 [.sl 1 (J0d l),.str s] (fun r=>r = .bool (J3x l s)):=by
 refine J1k Tryz.func224 rfl rfl fun hl => ?_
 simp at hl
 refine J02 Tryz.func224 a224_ok rfl (by simp [a224]) ?_
 simp [a224]
 generalize hB:J3x l s=B
 refine J4m [0,1] 5 l.length (fun i _=>J3x (l.drop i) s=B) hl.1 (by simp) (by simpa using hB) ?_ ?_
 ·rintro i st h R hi hg hk s5 hw hJ hh hR hret _
  simp at hk
  rw [Jmz hi] at hJ
  simp [hk,s5,hi,hg]
  intro _
  by_cases hx:l[i]=s
  ·simp [hx] at hJ
   simp [hx]
   refine hret _ _ _ ?_
   simp [hJ]
  ·have:(l[i]==s)=false:=by simpa using hx
   rw [this,Bool.false_or] at hJ
   simp [hx,hk,s5,hw]
   exact hR _ (by simp [hk]) (by simp) hJ
 ·rintro st h R hk s5 hJ hh _ hX
  simp at hk
  rw [List.drop_eq_nil_of_le (by omega)] at hJ
  simp [hk,s5]
  intro _
  refine hX _ _ ?_
  simp [←hJ,J3x]
theorem Jmo (l:List Str) (s:Str):Holds Tryz.prog 153 [.sl 1 (J0d l),.str s] (fun r=>r=i64 (J1r (fun x=>x==s) l 0)):=by
 refine J1k Tryz.func153 rfl rfl fun hl => ?_
 simp at hl
 refine J02 Tryz.func153 a153_ok rfl (by simp [a153]) ?_
 simp [a153]
 intro _
 generalize hB:J1r (fun x=>x==s) l 0=B
 refine J4m [0,1,7] 8 l.length (fun i _=>J1r (fun x=>x==s) (l.drop i) i=B) hl.1 (by simp) (by simpa using hB) ?_ ?_
 ·rintro i st h R hi hg hk s8 hw hJ hh hR hret _
  simp at hk
  rw [List.drop_eq_getElem_cons hi] at hJ
  simp only [J1r] at hJ
  simp [hk,s8,hi,hg]
  by_cases hx:s=l[i]
  ·rw [if_pos (by simp [hx])] at hJ
   simp [hx]
   refine hret _ _ _ ?_
   simp [hJ]
  ·rw [if_neg (by simpa using fun h=>hx h.symm)] at hJ
   simp [hx,hk,s8,hw]
   exact hR _ (by simp [hk]) (by simp) hJ
 ·rintro st h R hk s8 hJ hh _ hX
  simp at hk
  rw [List.drop_eq_nil_of_le (by omega)] at hJ
  simp [hk,s8]
  refine hX _ _ ?_
  simp [←hJ,J1r]
theorem J6k (l:List Str) (s:Str):Holds Tryz.prog 72 [.sl 1 (J0d l),.str s] (fun r=>r = .bool (J3x l s)):=by
 refine J02 Tryz.func72 a72_ok rfl (by simp [a72]) ?_
 simp [a72]
 first|refine J00 (Jmo l s) (by first|simp;done|rfl) ?_|refine J01 (Jmo l s) (by first|simp;done|rfl) ?_
 rintro r rfl
 have:=Ja7 (p:=fun x=>x==s) (l:=l) (i:=0)
 simp only [ge_iff_le] at this
 simp [this,J3x]
theorem J50 (l:List Str) (s:Str):Holds Tryz.prog 63 [.sl 1 (J0d l),.str s] (fun r=>r=i64 (J1r (fun x=>x==s) l 0)):=by
 refine J1k Tryz.func63 rfl rfl fun hl => ?_
 simp at hl
 refine J02 Tryz.func63 a63_ok rfl (by simp [a63]) ?_
 simp [a63]
 generalize hB:J1r (fun x=>x==s) l 0=B
 refine J4m [0,1] 5 l.length (fun i _=>J1r (fun x=>x==s) (l.drop i) i=B) hl.1 (by simp) (by simpa using hB) ?_ ?_
 ·rintro i st h R hi hg hk s5 hw hJ hh hR hret _
  simp at hk
  rw [List.drop_eq_getElem_cons hi] at hJ
  simp only [J1r] at hJ
  simp [hk,s5,hi,hg]
  intro _
  by_cases hx:l[i]=s
  ·rw [if_pos (by simp [hx])] at hJ
   simp [hx,s5]
   refine hret _ _ _ ?_
   simp [hJ]
  ·rw [if_neg (by simpa using hx)] at hJ
   simp [hx,hk,s5,hw]
   exact hR _ (by simp [hk]) (by simp) hJ
 ·rintro st h R hk s5 hJ hh _ hX
  simp at hk
  rw [List.drop_eq_nil_of_le (by omega)] at hJ
  simp [hk,s5]
  intro _
  refine hX _ _ ?_
  simp [←hJ,J1r]
theorem Jaq:Holds Tryz.prog 333 [] (fun r=>r = .us 1 (J0d Jee)):=by
 refine J02 Tryz.func333 a333_ok rfl (by simp [a333]) ?_
 simp [a333]
 simp [J0d,Jee]
theorem Jb9 (s:Str):Holds Tryz.prog 317 [.str s] (fun r=>r = .bool (Jmc s)):=by
 refine J02 Tryz.func317 a317_ok rfl (by simp [a317]) ?_
 simp [a317]
 first|refine J00 (Jaq) (by first|simp;done|rfl) ?_|refine J01 (Jaq) (by first|simp;done|rfl) ?_
 rintro r rfl
 simp
 first|refine J00 (J98 Jee s) (by first|simp;done|rfl) ?_|refine J01 (J98 Jee s) (by first|simp;done|rfl) ?_
 rintro r rfl
 simp [Jmc]
theorem Jfc {s:Str}{i:Nat}(hi:i<s.length):J3t i (s.drop i)=((Jg7 s[i]||(decide (i≠0)&&Jld s[i]))&&J3t (i+1) (s.drop (i+1))):=by
 rw [List.drop_eq_getElem_cons hi];rfl
theorem J4j (s:Str):Holds Tryz.prog 143 [.str s] (fun r=>r = .bool (J37 s)):=by
 refine J02 Tryz.func143 a143_ok rfl (by simp [a143]) ?_
 simp [a143]
 intro hl
 first|refine J00 (J1v s.length 1 8) (by first|simp;done|rfl) ?_|refine J01 (J1v s.length 1 8) (by first|simp;done|rfl) ?_
 rintro r rfl
 unfold J37
 cases h1:inR s.length 1 8
 ·simp
 simp
 first|refine J00 (Jbz s) (by first|simp;done|rfl) ?_|refine J01 (Jbz s) (by first|simp;done|rfl) ?_
 rintro r rfl
 cases h2:Jmc s
 case true=>simp
 simp
 generalize hB:J3t 0 s=B
 refine J4m [0] 3 s.length (fun i _=>J3t i (s.drop i)=B) hl (by simp) (by simpa using hB) ?_ ?_
 ·rintro i st h R hi hg hk s3 hw hJ hh hR hret _
  simp at hk
  rw [Jfc hi] at hJ
  have hgd:s[i]?.getD 0=s[i]:=by simp [hi]
  unfold Jg7 Jld at hJ
  obtain ⟨m,hm⟩:∃ m:Int,((s[i]).toNat:Int)=m:=⟨_,rfl⟩
  rw [hm] at hJ
  refine J0g [0,3] (fun _=>True) (by simp [hk,s3,hi]) ?_
  intro s1 hk1 _
  simp at hk1
  refine J09 (J0t (J0g [0,3] (fun s=>s 4 = .bool (decide (97≤m)&&decide (m≤122))) ?_ ?_))
  ·by_cases u1:97≤m <;> by_cases u2:m≤122 <;> simp [hk,s3,hk1,hi,hgd,hm,u1,u2]
  intro s2 hk2 s4
  simp at hk2
  refine J0g [0,3,4] (fun s=>s 5 = .bool (decide (48≤m)&&decide (m≤57))) ?_ ?_
  ·by_cases u1:48≤m <;> by_cases u2:m≤57 <;> simp [hk,s3,hk1,hk2,hi,hgd,hm,u1,u2]
  intro s5 hk5 s55
  simp at hk5
  generalize (decide (97≤m)&&decide (m≤122))=L at *
  generalize (decide (48≤m)&&decide (m≤57))=D at *
  cases L
  ·cases D
   ·rw [Bool.and_false,Bool.or_false,Bool.false_and] at hJ
    simp [hk,s3,hk1,hk2,hk5,s4,s55]
    refine hret _ _ _ ?_
    simp [hJ]
   ·by_cases h0:i=0
    ·subst h0
     simp at hJ
     simp [hk,s3,hk1,hk2,hk5,s4,s55]
     refine hret _ _ _ ?_
     simp [hJ]
    ·simp [h0] at hJ
     simp [hk,s3,hk1,hk2,hk5,s4,s55,hw,(by omega:0<i)]
     exact hR _ (by simp [hk,hk1,hk2,hk5]) (by simp) hJ
  ·simp at hJ
   simp [hk,s3,hk1,hk2,hk5,s4,s55,hw]
   exact hR _ (by simp [hk,hk1,hk2,hk5]) (by simp) hJ
 ·rintro st h R hk s3 hJ hh _ hX
  simp at hk
  rw [List.drop_eq_nil_of_le (by omega)] at hJ
  simp [hk,s3]
  intro _
  refine hX _ _ ?_
  simp [←hJ,J3t]
set_option maxHeartbeats 1000000 in
theorem Jfq (s:Str):Holds Tryz.prog 316 [.str s] (fun r=>r = .bool (J3t 0 s&&decide (0<s.length))):=by
 refine J1k Tryz.func316 rfl rfl fun hl => ?_
 simp at hl
 refine J02 Tryz.func316 a316_ok rfl (by simp [a316]) ?_
 simp [a316]
 generalize hB:J3t 0 s=B
 refine J4m [0] 3 s.length (fun i _=>J3t i (s.drop i)=B) hl (by simp) (by simpa using hB) ?_ ?_
 ·rintro i st h R hi hg hk s3 hw hJ hh hR hret _
  simp at hk
  rw [Jfc hi] at hJ
  have hgd:s[i]?.getD 0=s[i]:=by simp [hi]
  unfold Jg7 Jld at hJ
  obtain ⟨m,hm⟩:∃ m:Int,((s[i]).toNat:Int)=m:=⟨_,rfl⟩
  rw [hm] at hJ
  refine J0g [0,3] (fun _=>True) (by simp [hk,s3,hi]) ?_
  intro s1 hk1 _
  simp at hk1
  refine J09 (J0t (J0g [0,3] (fun s=>s 4 = .bool (decide (97≤m)&&decide (m≤122))) ?_ ?_))
  ·by_cases u1:97≤m <;> by_cases u2:m≤122 <;> simp [hk,s3,hk1,hi,hgd,hm,u1,u2]
  intro s2 hk2 s4
  simp at hk2
  refine J0g [0,3,4] (fun s=>s 5 = .bool (decide (48≤m)&&decide (m≤57))) ?_ ?_
  ·by_cases u1:48≤m <;> by_cases u2:m≤57 <;> simp [hk,s3,hk1,hk2,hi,hgd,hm,u1,u2]
  intro s5 hk5 s55
  simp at hk5
  generalize (decide (97≤m)&&decide (m≤122))=L at *
  generalize (decide (48≤m)&&decide (m≤57))=D at *
  cases L
  ·cases D
   ·rw [Bool.and_false,Bool.or_false,Bool.false_and] at hJ
    subst hJ
    by_cases h0:i=0
    ·subst h0
     simp [hk,s3,hk1,hk2,hk5,s4,s55]
     refine hret _ _ _ ?_
     simp
    ·simp [hk,s3,hk1,hk2,hk5,s4,s55,h0]
     refine hret _ _ _ ?_
     simp
   ·by_cases h0:i=0
    ·subst h0
     simp at hJ
     subst hJ
     simp [hk,s3,hk1,hk2,hk5,s4,s55]
     refine hret _ _ _ ?_
     simp
    ·simp [h0] at hJ
     simp [hk,s3,hk1,hk2,hk5,s4,s55,hw,h0]
     exact hR _ (by simp [hk,hk1,hk2,hk5]) (by simp) hJ
  ·simp at hJ
   simp [hk,s3,hk1,hk2,hk5,s4,s55,hw]
   exact hR _ (by simp [hk,hk1,hk2,hk5]) (by simp) hJ
 ·rintro st h R hk s3 hJ hh _ hX
  simp at hk
  rw [List.drop_eq_nil_of_le (by omega)] at hJ
  refine J0g [] (fun _=>False) ?_ (fun _ _ h=>h.elim)
  simp [hk,s3]
  intro _
  refine hX _ _ ?_
  subst hJ
  simp [hk,J3t]
theorem J2t (s:Str):Holds Tryz.prog 285 [.str s] (fun r=>r = .bool (J37 s)):=by
 refine J02 Tryz.func285 a285_ok rfl (by simp [a285]) ?_
 simp [a285]
 first|refine J00 (Jfq s) (by first|simp;done|rfl) ?_|refine J01 (Jfq s) (by first|simp;done|rfl) ?_
 rintro r rfl
 unfold J37 inR
 cases h1:J3t 0 s
 ·simp
 by_cases h2:0<s.length
 case neg=>
  have:s.length=0:=by omega
  simp [this]
 have h2':(1:Int)≤s.length:=by omega
 simp [h2,h2']
 intro _
 by_cases h3:s.length≤8
 case neg=>
  have h3':¬(s.length:Int)≤8:=by omega
  simp [h3,h3']
 have h3':(s.length:Int)≤8:=by omega
 simp [h3,h3',Int.not_lt.2 h3']
 first|refine J00 (Jb9 s) (by first|simp;done|rfl) ?_|refine J01 (Jb9 s) (by first|simp;done|rfl) ?_
 rintro r rfl
 simp
theorem Jtn (c:UInt8):((c.toNat:Int)==115)=(c==115):=by
 rw [Bool.eq_iff_iff]
 simp only [beq_iff_eq]
 constructor
 ·intro h
  exact UInt8.toNat_inj.1 (by simp;omega)
 ·rintro rfl
  rfl
theorem J1w (s:Str):Holds Tryz.prog 205 [.str s] (fun r=>r = .bool (J0l s)):=by
 refine J02 Tryz.func205 a205_ok rfl (by simp [a205]) ?_
 simp [a205]
 first|refine J00 (J4j s) (by first|simp;done|rfl) ?_|refine J01 (J4j s) (by first|simp;done|rfl) ?_
 rintro r rfl
 unfold J0l
 cases h1:J37 s
 ·simp
 obtain ⟨h2,h3⟩:=Jfe h1
 simp
 intro _
 rw [J19 (by omega)]
 have e:((s.length:Int) - 1).toNat=s.length - 1:=by omega
 simp [e]
 refine ⟨by omega,by omega,?_⟩
 exact Jtn _
theorem J4d (s:Str):Holds Tryz.prog 140 [.str s] (fun r=>r = .bool (J28 s)):=by
 refine J02 Tryz.func140 a140_ok rfl (by simp [a140]) ?_
 simp [a140]
 first|refine J00 (J4j s) (by first|simp;done|rfl) ?_|refine J01 (J4j s) (by first|simp;done|rfl) ?_
 rintro r rfl
 unfold J28
 cases h1:J37 s
 ·simp
 simp
 first|refine J00 (J1w s) (by first|simp;done|rfl) ?_|refine J01 (J1w s) (by first|simp;done|rfl) ?_
 rintro r rfl
 simp
theorem J18 (s:Str):Holds Tryz.prog 260 [.str s] (fun r=>r = .bool (J0l s)):=by
 refine J02 Tryz.func260 a260_ok rfl (by simp [a260]) ?_
 simp [a260]
 first|refine J00 (J2t s) (by first|simp;done|rfl) ?_|refine J01 (J2t s) (by first|simp;done|rfl) ?_
 rintro r rfl
 unfold J0l
 cases h1:J37 s
 ·simp
 obtain ⟨h2,h3⟩:=Jfe h1
 simp
 intro _
 rw [J19 (by omega)]
 have e:((s.length:Int) - 1).toNat=s.length - 1:=by omega
 simp [e]
 refine ⟨by omega,by omega,?_⟩
 exact Jtn _
theorem J4g (s:Str):Holds Tryz.prog 216 [.str s] (fun r=>r = .bool (J28 s)):=by
 refine J02 Tryz.func216 a216_ok rfl (by simp [a216]) ?_
 simp [a216]
 first|refine J00 (J2t s) (by first|simp;done|rfl) ?_|refine J01 (J2t s) (by first|simp;done|rfl) ?_
 rintro r rfl
 unfold J28
 cases h1:J37 s
 ·simp
 simp
 first|refine J00 (J18 s) (by first|simp;done|rfl) ?_|refine J01 (J18 s) (by first|simp;done|rfl) ?_
 rintro r rfl
 simp
def a305:AFn:= ⟨21,[(.c 6 true 2)],(.seq (.reg [Zo 3 (.boxv (.t 0)),Zo 6 (.box [(.int .i64 0),(.nil 1)])]) (.seq (.reg [Zf 8 0 3,Zl 9 false 1 8,Zv 10 1,Zc 11 63 [.t 9,.t 10],Zv 7 11]) (.seq (.seq (.reg [Zv 12 7,Zo 13 (.bin .lss (.t 12) (.k (.int .i64 0)))]) (.cond (.t 13) (.seq (.reg [Zv 14 2,Zc 15 99 [(.k (.int .i64 0)),.t 14],⟨no,.st 2 (.t 6) (.t 15),no⟩]) .ret) .skip)) (.seq (.reg [Zf 16 1 3,Zl 17 false 1 16,Zv 18 7,Zo 19 (.ixa 2 (.t 17) (.t 18)),Zl 20 true 2 19,⟨no,.st 2 (.t 6) (.t 20),no⟩]) .ret))))⟩
theorem a305_ok:J0a Tryz.prog Tryz.f305=some a305:=by kernel_rfl
def a265:AFn:= ⟨19,[.t 2],(.seq (.reg [Zo 2 (.mv (.k (.int .i64 0)))]) (.seq (.reg [Zo 3 (.mv (.k (.int .i64 0)))]) (.seq (.seq (.reg [Zo 4 (.mv (.k (.int .i64 0)))]) (.blk 0 (.loop (.seq (.seq (.reg [Zv 5 4,Zv 6 0,Zo 7 (.len false (.t 6)),Zo 8 (.bin .lss (.t 5) (.t 7))]) (.cond (.t 8) .skip (.exit 0))) (.seq (.blk 1 (.seq (.reg [Zv 11 0,Zv 12 4,Zo 13 (.ixa 4 (.t 11) (.t 12)),Zf 14 1 13,Zl 15 false 1 14]) (.cond (.t 15) (.reg [Zv 16 3,Zo 17 (.bin .add (.t 16) (.k (.int .i64 1))),Zv 3 17]) .skip))) (.reg [Zv 9 4,Zo 10 (.bin .add (.t 9) (.k (.int .i64 1))),Zv 4 10])))))) (.seq (.reg [Zv 18 3,Zv 2 18]) .ret))))⟩
theorem a265_ok:J0a Tryz.prog Tryz.f265=some a265:=by kernel_rfl
theorem J3v.bwS {b:Nat}{l:List Str}{v:AV}{h:Heap}{n:Nat}(x:J3v b 1 (J0d l) v h n):bw v h=some (.sl 1 (J0d l)):=by
 rcases x with ⟨h1,rfl⟩|⟨i,_,_,rfl,hb⟩
 ·rw [h1];rfl
 ·simp [hb,List.take_of_length_le]
def J2x (E:SEnv):List DLin:=E.map (·.2)
theorem J7o {P:Program}{f:FuncId}{xs xs':List AV}{h:Heap}{n:Nat}{Qr:AV→Prop}{K:AV→Heap→Nat→Prop}(hh:Holds P f xs' Qr) (hb:bwl xs h=some xs') (hK:∀ r,Qr r→K (dr r) h n):J30 P f xs h n K:=by
 refine ⟨hh.1,fun base w0 w L F vs H hv => ?_⟩
 refine (hh.2 w vs (J5z H xs hv hb)).mono ?_
 rintro e w' ⟨v,r,S,rfl,hq,hcl,hbel,hr,hnd,hS⟩
 obtain ⟨g1,g2⟩:=H.after hbel
 exact ⟨v,dr r,L,n,F,h,rfl,g1,g2,Jxf _ _ _ (Jme r v S hcl (fun b hb ho=>absurd (H.own_lt ho) (by have:=(hS b hb).1;omega)) hr),hK r hq⟩
theorem J4x {P:Program}{f:FuncId}{xs xs':List AV}{h:Heap}{n:Nat}{Qr:AV→Prop}{K:AV→Heap→Nat→Prop}(hh:Holds P f xs' Qr) (hb:bwl xs h=some xs') (hk:∀ r,Qr r→K (dr r) h n):J30 P f xs h n (hK h K):=
 J7o hh hb fun r hr=>⟨J8i.refl h,hk r hr⟩
@[simp] theorem Jqf (x:DLin):drl (J06 x)=J06 x:=by simp [J06]
@[simp] theorem Jzy (l:List DLin):drr (l.map J06)=l.map J06:=by rw [J4s,List.map_map];exact List.map_congr_left fun x _=>Jqf x
@[simp] theorem K3n (x:DLin) (h:Heap):dtl (J06 x) h=some (J06 x,h):=by simp [J06]
theorem J3v.bwA {b:Nat}{l:List DLin}{v:AV}{h:Heap}{n:Nat}(x:J3v b 2 (l.map J06) v h n):bw v h=some (.sl 2 (l.map J06)):=by
 rcases x with ⟨h1,rfl⟩|⟨i,_,_,rfl,hb⟩
 ·have:l=[]:=by simpa using h1
  subst this;simp
 ·simp [hb,List.take_of_length_le]
def SVs (v:AV) (l:List Str) (h:Heap) (n:Nat):Prop:=v = .sl 1 (J0d l)∨∃ b,J3v b 1 (J0d l) v h n
def SVl (v:AV) (l:List DLin) (h:Heap) (n:Nat):Prop:=v = .sl 2 (l.map J06)∨∃ b,J3v b 2 (l.map J06) v h n
theorem SVs.bw {v:AV}{l:List Str}{h h':Heap}{n:Nat}(x:SVs v l h n) (hh:∀ id,id<n→h' id=h id):Go.Proofs.YtoclolkigjbcgaaGreat.bw v h'=some (.sl 1 (J0d l)):=by
 rcases x with rfl|⟨b,x⟩
 ·simp
 ·exact (x.keep (Nat.le_refl _) fun id _ hid _=>hh id hid).bwS
theorem SVs.cell {v:AV}{l:List Str}{h:Heap}{n:Nat}(x:SVs v l h n):J0n v=true:=by
 rcases x with rfl|⟨b,⟨_,rfl⟩|⟨i,_,_,rfl,_⟩⟩ <;> rfl
theorem SVl.cell {v:AV}{l:List DLin}{h:Heap}{n:Nat}(x:SVl v l h n):J0n v=true:=by
 rcases x with rfl|⟨b,⟨_,rfl⟩|⟨i,_,_,rfl,_⟩⟩ <;> rfl
theorem Jpe {x:Str}{E:SEnv} : (J1r (fun y=>y==x) (J1a E) 0 = -1∧∀ d,J2n d E x=d)∨∃ j:Nat,∃ hj:j<E.length,J1r (fun y=>y==x) (J1a E) 0=(j:Int)∧∀ d,J2n d E x=(E[j]).2:=by
 have key:∀ (E:SEnv) (k:Nat),(J1r (fun y=>y==x) (J1a E) k = -1∧∀ d,J2n d E x=d)∨∃ j:Nat,∃ hj:j<E.length,J1r (fun y=>y==x) (J1a E) k=((k+j:Nat):Int)∧∀ d,J2n d E x=(E[j]).2:=by
  intro E
  induction E with
  | nil=>intro k;exact .inl ⟨rfl,fun _=>rfl⟩
  | cons e E ih=>
   intro k
   simp only [J1a,List.map_cons,J1r,J2n,List.find?_cons]
   cases hb:e.1==x
   ·simp only [Bool.false_eq_true,if_false]
    rcases ih (k+1) with ⟨h1,h2⟩|⟨j,hj,h1,h2⟩
    ·exact .inl ⟨h1,h2⟩
    ·exact .inr ⟨j+1,by simp;omega,by rw [J1a] at h1;rw [h1];congr 1;omega,by simpa [J2n] using h2⟩
   ·exact .inr ⟨0,by simp,by simp,fun d=>by simp⟩
 simpa using key E 0
theorem Jgz {E:SEnv}{vN vL:AV}{h:Heap}{n N:Nat}{x:Str}(A:SVs vN (J1a E) h n) (B:SVl vL (J2x E) h n) (hE:E.length≤1048576) {K:AV→Heap→Nat→Prop}
 (hK:∀ w h' n',n≤n'→(∀ id,id<n→h' id=h id)→J0n w=true→(∀ H:Heap,(∀ id,id<n'→H id=h' id)→bw w H=some (.sl 1 (J0e (J2n (J04 0 N) E x).Coeffs)))→K (.agg [.int .i64 (J2n (J04 0 N) E x).Const,w]) h' n') :
 J30 Tryz.prog 305 [.agg [vN,vL],.str x,i64 N] h n K:=by
 refine J1z Tryz.func305 a305_ok rfl (by simp [a305]) ?_
 have ne:¬n=n+1∧¬n+1=n∧¬n=n+1+1∧¬n+1+1=n∧¬n+1=n+1+1∧¬n+1+1=n+1:=by omega
 have fr:∀ id,id<n→¬id=n∧¬id=n+1∧¬id=n+1+1∧¬id=n+2:=by intro id _;omega
 have cN:=A.cell
 have cL:=B.cell
 have hbN:∀ y z,bw vN (upd (upd h n y) (n+1) z)=some (.sl 1 (J0d (J1a E))):=fun y z=>A.bw fun id hid=>by simp [fr id hid]
 simp [a305,-J0n,cN,cL,ne]
 first|refine J00 (J50 (J1a E) x) (by first|simp [hbN];done|rfl) ?_|refine J01 (J50 (J1a E) x) (by first|simp [hbN];done|rfl) ?_
 rintro r rfl
 rcases Jpe (x:=x) (E:=E) with ⟨h1,h2⟩|⟨j,hj,h1,h2⟩
 ·rw [h1]
  rw [h2] at hK
  simp [ne]
  first|refine J00 (J13 0 N) (by first|simp;done|rfl) ?_|refine J01 (J13 0 N) (by first|simp;done|rfl) ?_
  rintro r rfl
  simp [J07,ne]
  refine hK _ _ _ (by omega) (fun id hid=>by simp [fr id hid]) rfl fun H hH => ?_
  have:=hH (n+2) (by omega)
  simp at this
  simp [this]
 ·rw [h1]
  rw [h2] at hK
  have hj0:¬(j:Int)<0:=by omega
  have hjv:j<(J2x E).length:=by simpa [J2x] using hj
  have hve:(J2x E)[j]=(E[j]).2:=by simp [J2x]
  rcases B with rfl|⟨b,⟨hz,rfl⟩|⟨i,_,hin,rfl,hib⟩⟩
  ·simp [ne,hjv,hj0,hve,J06]
   exact hK _ _ _ (by omega) (fun id hid=>by simp [fr id hid]) rfl fun H hH=>by simp
  ·have:E=[]:=by simpa [J2x] using hz
   subst this;simp at hj
  ·have ni:=fr i hin
   simp [ne,hjv,hj0,ni,hib,hve,J06]
   exact hK _ _ _ (by omega) (fun id hid=>by simp [fr id hid]) rfl fun H hH=>by simp
theorem Jiy {E:SEnv}{vN vL:AV}{h:Heap}{n N:Nat}{x:Str}{d:DLin}(A:SVs vN (J1a E) h n) (B:SVl vL (J2x E) h n) (hx:x∈J1a E) {K:AV→Heap→Nat→Prop}
 (hK:∀ h' n',n≤n'→(∀ id,id<n→h' id=h id)→K (.agg (J06 (J2n d E x))) h' n') :
 J30 Tryz.prog 305 [.agg [vN,vL],.str x,i64 N] h n K:=by
 refine J1z Tryz.func305 a305_ok rfl (by simp [a305]) ?_
 have ne:¬n=n+1∧¬n+1=n∧¬n=n+1+1∧¬n+1+1=n∧¬n+1=n+1+1∧¬n+1+1=n+1:=by omega
 have fr:∀ id,id<n→¬id=n∧¬id=n+1∧¬id=n+1+1∧¬id=n+2:=by intro id _;omega
 have cN:=A.cell
 have cL:=B.cell
 have hbN:∀ y z,bw vN (upd (upd h n y) (n+1) z)=some (.sl 1 (J0d (J1a E))):=fun y z=>A.bw fun id hid=>by simp [fr id hid]
 simp [a305,-J0n,cN,cL,ne]
 first|refine J00 (J50 (J1a E) x) (by first|simp [hbN];done|rfl) ?_|refine J01 (J50 (J1a E) x) (by first|simp [hbN];done|rfl) ?_
 rintro r rfl
 rcases Jpe (x:=x) (E:=E) with ⟨h1,h2⟩|⟨j,hj,h1,h2⟩
 ·obtain ⟨l,_,hl⟩:=Jea J1d hx
  have e1:=hl J1d []
  have e2:=hl ⟨1,[]⟩ []
  rw [List.append_nil] at e1 e2
  rw [h2] at e1 e2
  rw [←e1] at e2
  simp [J1d] at e2
 ·rw [h1]
  rw [h2] at hK
  have hj0:¬(j:Int)<0:=by omega
  have hjv:j<(J2x E).length:=by simpa [J2x] using hj
  have hve:(J2x E)[j]=(E[j]).2:=by simp [J2x]
  rcases B with rfl|⟨b,⟨hz,rfl⟩|⟨i,_,hin,rfl,hib⟩⟩
  ·simp [ne,hjv,hj0,hve,J06]
   exact hK _ _ (by omega) (fun id hid=>by simp [fr id hid])
  ·have:E=[]:=by simpa [J2x] using hz
   subst this;simp at hj
  ·have ni:=fr i hin
   simp [ne,hjv,hj0,ni,hib,hve,J06]
   exact hK _ _ (by omega) (fun id hid=>by simp [fr id hid])
theorem Jlo (l:List DPattern):Holds Tryz.prog 265 [.sl 4 (l.map J08)] (fun r=>r=i64 (J34 l)):=by
 refine J1k Tryz.func265 rfl rfl fun hl => ?_
 simp at hl
 refine J02 Tryz.func265 a265_ok rfl (by simp [a265]) ?_
 simp [a265]
 generalize hT:J34 l=T
 refine J4m [0] 4 l.length (fun i s=>∃ c:Nat,c≤i∧s 3 = .int .i64 c∧c+J34 (l.drop i)=T) (by first|exact hl|exact hl.1) (by simp) ⟨0,by omega,by simp,by simpa using hT⟩ ?_ ?_
 ·rintro i st h R hi hg hk s4 hw ⟨c,hc,s3,hJ⟩ hh hR _ _
  simp at hk hh
  rw [List.drop_eq_getElem_cons hi] at hJ
  unfold J34 at hJ
  rw [List.filter_cons] at hJ
  have hw2:IntKind.i64.wrap ((c:Int)+1)=(c:Int)+1:=J19 (by unfold LIM at hl;omega)
  cases hc2:(l[i]).Cons
  ·rw [hc2] at hJ
   simp [hk,s4,hi,s3,hw,J08,hc2]
   try intro _
   exact hR _ (by simp [hk]) (by simp) ⟨c,by omega,by simp [s3],by simpa [J34] using hJ⟩
  ·rw [hc2] at hJ
   simp only [if_true,List.length_cons] at hJ
   simp [hk,s4,hi,s3,hw,hw2,J08,hc2]
   try intro _
   exact hR _ (by simp [hk]) (by simp) ⟨c+1,by omega,by simp,by unfold J34;omega⟩
 ·rintro st h R hk s4 ⟨c,hc,s3,hJ⟩ hh _ hX
  simp at hk hh
  rw [List.drop_eq_nil_of_le (by omega)] at hJ
  simp [J34] at hJ
  subst hJ
  simp [hk,s4]
  try intro _
  refine hX _ _ ?_
  simp [hk,s3]
def a202:AFn:= ⟨16,[(.c 5 true 2)],(.seq (.reg [Zo 5 (.box [(.int .i64 0),(.nil 1)])]) (.seq (.reg [Zl 7 false 1 1,Zl 8 false 1 2,Zc 9 203 [.t 7,.t 8],Zo 6 (.box [(.int .i64 0),(.nil 1)]),⟨no,.st 2 (.t 6) (.t 9),no⟩]) (.seq (.reg [Zl 10 false 1 3,Zv 11 0,Zl 12 true 2 6,⟨no,.mput (.t 10) (.t 11) (.t 12),no⟩]) (.seq (.reg [Zl 13 false 1 1,Zo 14 (.bin .add (.t 13) (.k (.int .i64 1))),⟨no,.st 1 (.t 1) (.t 14),no⟩]) (.seq (.reg [Zl 15 true 2 6,⟨no,.st 2 (.t 5) (.t 15),no⟩]) .ret)))))⟩
theorem a202_ok:J0a Tryz.prog Tryz.f202=some a202:=by kernel_rfl
def a204:AFn:= ⟨12,[],(.seq (.reg [Zo 2 (.boxv (.t 0))]) (.draw (.op (Zf 3 0 1) (.op (Zf 4 1 3) (.op (Zl 5 false 1 4) (.op (Zl 6 true 2 2) (.op (Zc 7 86 [.t 6]) (.hop (Zo 8 (.bsl 2 [.t 7])) [(.ld false 1 (.t 4)),(.fld 1 (.t 3)),(.fld 0 (.t 1))] (.hop (Zo 9 (.app 32 2 (.t 5) (.t 8))) [] (.op (Zf 10 0 1) (.op (Zf 11 1 10) (.hop ⟨no,.st 1 (.t 11) (.t 9),no⟩ [] .fin))))))))))))⟩
theorem a204_ok:J0a Tryz.prog Tryz.f204=some a204:=by kernel_rfl
structure Ids where
 m:Nat
 d:Nat
 s:Nat
 x:Nat
def J52 (N:Nat) (vR vP vA:AV):List AV:=[.int .i64 N,vR,vP,vA,.int .i64 0,.nil 1]
def Jzn (N:Nat) (I:Ids) (st:MS) (h:Heap) (n:Nat):Prop:=∃ vR vP vA,h I.m=some ⟨true,6,[J52 N vR vP vA]⟩∧J3v I.x 2 (st.rows.map J07) vR h n∧J3v I.x 2 (st.pars.map J07) vP h n ∧
 J3v I.x 1 (st.args.map J26) vA h n∧(st.args=[]→vA = .nil 1)∧∀ i k j l,vR = .ref i 0 k→vP = .ref j 0 l→i≠j
structure MI (p:DProgram) (r:DRule) (f:DFunction) (N:Nat) (I:Ids) (st:MS) (h:Heap) (n:Nat):Prop where
 hp:h 0=some ⟨true,2,[J03 p]⟩
 hz:h 1=some ⟨true,6,[[.int .i64 0,.nil 2,.nil 2,.nil 1,.int .i64 0,.nil 1]]⟩
 hr:h 2=some ⟨true,7,[J0c r]⟩
 h3:h 3=some ⟨false,1,J0d f.Params⟩
 h4:h 4=some ⟨false,2,f.Pre.map J07⟩
 hf:h 5=some ⟨true,4,[[.str f.Name,.ref 3 0 f.Params.length,.bool f.ListResult,.ref 4 0 f.Pre.length]]⟩
 hn:h 6=some ⟨true,1,[[.int .i64 N]]⟩
 lt:6<I.m∧I.m<I.d∧I.d<I.s∧I.s<I.x∧I.x<n
 hmp:h I.s=some ⟨true,1,[[.mp I.d]]⟩
 hnx:h I.x=some ⟨true,1,[[.int .i64 st.nx]]⟩
 map:Jax I.d st.E h n
 acc:Jzn N I st h n
section
variable {p:DProgram}{r:DRule}{f:DFunction}{N:Nat}{I:Ids}{st st':MS}{h h':Heap}{n n':Nat}
theorem Jzn.frame (A:Jzn N I st h n) (hm:I.m<n) (hn:n≤n') (hh:∀ id,id<n→h' id=h id):Jzn N I st h' n':=by
 obtain ⟨vR,vP,vA,g1,g2,g3,g4,g6,g5⟩:=A
 exact ⟨vR,vP,vA,by rw [hh _ hm,g1],g2.keep hn fun id _ hid _=>hh id hid,g3.keep hn fun id _ hid _=>hh id hid,g4.keep hn fun id _ hid _=>hh id hid,g6,g5⟩
theorem MI.frame (M:MI p r f N I st h n) (hn:n≤n') (hh:∀ id,id<n→h' id=h id):MI p r f N I st h' n':=by
 obtain ⟨l1,l2,l3,l4,l5⟩:=M.lt
 refine ⟨?_,?_,?_,?_,?_,?_,?_,⟨l1,l2,l3,l4,by omega⟩,?_,?_,M.map.keep (by omega) hn hh,M.acc.frame (by omega) hn hh⟩
 ·rw [hh 0 (by omega),M.hp]
 ·rw [hh 1 (by omega),M.hz]
 ·rw [hh 2 (by omega),M.hr]
 ·rw [hh 3 (by omega),M.h3]
 ·rw [hh 4 (by omega),M.h4]
 ·rw [hh 5 (by omega),M.hf]
 ·rw [hh 6 (by omega),M.hn]
 ·rw [hh I.s (by omega),M.hmp]
 ·rw [hh I.x (by omega),M.hnx]
theorem MI.upd_acc (M:MI p r f N I st h n) (hE:st'.E=st.E) (hx:st'.nx=st.nx) (hn:n≤n') (bad:Nat→Prop) (hbad:∀ id,bad id→I.x<id∧∀ l,h id≠some ⟨false,1,J0e l⟩) (hh:∀ id,id<n→id≠I.m→¬bad id→h' id=h id)
 (hacc:Jzn N I st' h' n'):MI p r f N I st' h' n':=by
 obtain ⟨l1,l2,l3,l4,l5⟩:=M.lt
 have low:∀ id,id≤I.x→id≠I.m→h' id=h id:=fun id hid hne=>hh id (by omega) hne fun hb=>by have:=(hbad id hb).1;omega
 refine ⟨?_,?_,?_,?_,?_,?_,?_,⟨l1,l2,l3,l4,by omega⟩,?_,?_,?_,hacc⟩
 ·rw [low 0 (by omega) (by omega),M.hp]
 ·rw [low 1 (by omega) (by omega),M.hz]
 ·rw [low 2 (by omega) (by omega),M.hr]
 ·rw [low 3 (by omega) (by omega),M.h3]
 ·rw [low 4 (by omega) (by omega),M.h4]
 ·rw [low 5 (by omega) (by omega),M.hf]
 ·rw [low 6 (by omega) (by omega),M.hn]
 ·rw [low I.s (by omega) (by omega),M.hmp]
 ·rw [low I.x (by omega) (by omega),M.hnx,hx]
 ·rw [hE]
  obtain ⟨es,h1,h2,h3⟩:=M.map
  refine ⟨es,h1,by rw [low I.d (by omega) (by omega),h2],fun e he=>⟨by have:=(h3 e he).1;omega,?_⟩⟩
  obtain ⟨k1,k2⟩:=h3 e he
  rw [hh e.q k1 (fun g => ?_) fun hb=>(hbad _ hb).2 _ k2,k2]
  obtain ⟨vR,vP,vA,g1,_⟩:=M.acc
  rw [g,g1] at k2
  simp at k2
theorem MI.upd_map (M:MI p r f N I st h n) {x:Str}{l:DLin}{q:Nat}(hE:st'.E=Jl6 st.E x l) (hR:st'.rows=st.rows) (hP:st'.pars=st.pars) (hA:st'.args=st.args) (hn:n≤n') (hq:q<n') (hqb:h' q=some ⟨false,1,J0e l.Coeffs⟩)
 (hx':h' I.x=some ⟨true,1,[[.int .i64 st'.nx]]⟩)
 (hh:∀ id,id<n→id≠I.d→id≠I.x→h' id=h id) (hm:∀ es,h I.d=some ⟨true,0,es.map Ent.row⟩→h' I.d=some ⟨true,0,(J9s es x l q).map Ent.row⟩):MI p r f N I st' h' n':=by
 obtain ⟨l1,l2,l3,l4,l5⟩:=M.lt
 refine ⟨?_,?_,?_,?_,?_,?_,?_,⟨l1,l2,l3,l4,by omega⟩,?_,hx',?_,?_⟩
 ·rw [hh 0 (by omega) (by omega) (by omega),M.hp]
 ·rw [hh 1 (by omega) (by omega) (by omega),M.hz]
 ·rw [hh 2 (by omega) (by omega) (by omega),M.hr]
 ·rw [hh 3 (by omega) (by omega) (by omega),M.h3]
 ·rw [hh 4 (by omega) (by omega) (by omega),M.h4]
 ·rw [hh 5 (by omega) (by omega) (by omega),M.hf]
 ·rw [hh 6 (by omega) (by omega) (by omega),M.hn]
 ·rw [hh I.s (by omega) (by omega) (by omega),M.hmp]
 ·obtain ⟨es,h1,h2,h3⟩:=M.map
  refine ⟨J9s es x l q,by rw [Jko,h1,hE],hm es h2,fun e he => ?_⟩
  rcases Jf3 he with he|rfl
  ·obtain ⟨k1,k2⟩:=h3 e he
   refine ⟨by omega,?_⟩
   rw [hh e.q k1 (fun g => ?_) (fun g => ?_),k2]
   ·rw [g,h2] at k2;simp at k2
   ·rw [g,M.hnx] at k2;simp at k2
  ·exact ⟨hq,hqb⟩
 ·obtain ⟨vR,vP,vA,g1,g2,g3,g4,g6,g5⟩:=M.acc
  rw [←hR] at g2
  rw [←hP] at g3
  rw [←hA] at g4 g6
  exact ⟨vR,vP,vA,by rw [hh I.m (by omega) (by omega) (by omega),g1],g2.keep hn fun id hb hid _=>hh id hid (by omega) (by omega),g3.keep hn fun id hb hid _=>hh id hid (by omega) (by omega),g4.keep hn fun id hb hid _=>hh id hid (by omega) (by omega),g6,g5⟩
end
def Jg8 (st:MS) (x:Str) (l:DLin) (k:Nat):MS:=⟨Jl6 st.E x l,k,st.rows,st.pars,st.args⟩
def Jib (st:MS) (l:DLin):MS:=⟨st.E,st.nx,st.rows++[l],st.pars,st.args⟩
def Jpq (st:MS) (l:DLin):MS:=⟨st.E,st.nx,st.rows,st.pars++[l],st.args⟩
def Je5 (st:MS) (l:List DLin):MS:=⟨st.E,st.nx,st.rows,st.pars,st.args++[l]⟩
section
variable {p:DProgram}{r:DRule}{f:DFunction}{N:Nat}{I:Ids}{st:MS}{h:Heap}{n:Nat}{K:AV→Heap→Nat→Prop}
theorem Jbn (M:MI p r f N I st h n) (x:Str) (hx:st.nx≤100000000)
 (hK:∀ q h' n',n≤q→q<n'→(∀ id,id<n→id≠I.d→id≠I.x→h' id=h id)→h' q=some ⟨false,1,J0e (J2k st.nx N).Coeffs⟩→MI p r f N I (Jg8 st x (J2k st.nx N) (st.nx+1)) h' n'→K (Jij (J2k st.nx N) q) h' n') :
 J30 Tryz.prog 202 [.str x,.ptr I.x 0 0,.ptr 6 0 0,.ptr I.s 0 0] h n K:=by
 obtain ⟨l1,l2,l3,l4,l5⟩:=M.lt
 refine J1z Tryz.func202 a202_ok rfl (by simp [a202]) ?_
 have ne:¬I.x=n∧¬I.x=n+1∧¬I.x=n+1+1∧¬I.d=n∧¬I.d=n+1∧¬I.d=n+1+1∧¬I.s=n∧¬I.s=n+1∧¬I.s=n+1+1∧¬I.d=I.x∧¬I.x=I.d∧¬I.s=I.d∧¬I.s=I.x∧¬6=n∧¬6=n+1∧¬6=n+1+1∧¬n=6∧¬n=5∧¬n=4∧¬5=n∧¬4=n ∧
  ¬n=I.x∧¬n+1=I.x∧¬n+1+1=I.x∧¬n=I.d∧¬n+1=I.d∧¬n+1+1=I.d∧¬n=n+1∧¬n+1=n∧¬n=n+1+1∧¬n+1+1=n∧¬n+1=n+1+1:=by omega
 have hw:IntKind.i64.wrap ((st.nx:Int)+1)=(st.nx:Int)+1:=J19 (by omega)
 obtain ⟨es,hE,hd,hes⟩:=M.map
 simp [a202,M.hnx,M.hn,M.hmp,ne]
 first|refine J00 (Jkn st.nx N) (by first|simp;done|rfl) ?_|refine J01 (Jkn st.nx N) (by first|simp;done|rfl) ?_
 rintro r rfl
 simp [J07,M.hnx,M.hn,M.hmp,ne,hd,hw]
 refine hK (n+1) _ _ (by omega) (by omega) ?_ ?_ ?_
 ·intro id hid h1 h2
  have:¬id=n∧¬id=n+1∧¬id=n+1+1:=by omega
  simp [this,h1,h2]
 ·simp [ne]
 ·refine M.upd_map (x:=x) (l:=J2k st.nx N) (q:=n+1) rfl rfl rfl rfl (by omega) (by omega) (by simp [ne]) (by simp [ne,Jg8]) ?_ ?_
  ·intro id hid h1 h2
   have:¬id=n∧¬id=n+1∧¬id=n+1+1:=by omega
   simp [this,h1,h2]
  ·intro es' hd'
   rw [hd] at hd'
   simp only [Option.some.injEq,Blk.mk.injEq,true_and] at hd'
   rw [←Jeg,←hd']
   simp [ne,Jij]
theorem J9i (M:MI p r f N I st h n) {l:DLin}{q:Nat}(hl:l.Coeffs.length≤1048576) (hqn:q<n) (hq:h q=some ⟨false,1,J0e l.Coeffs⟩) (hrl:st.rows.length≤1000000)
 (hK:∀ h' n',n≤n'→(∀ id,id<n→id≠I.m→(∀ l,h id≠some ⟨false,2,l⟩)→h' id=h id)→MI p r f N I (Jib st l) h' n'→K (.tup []) h' n') :
 J30 Tryz.prog 204 [Jij l q,.ptr I.m 0 0] h n K:=by
 obtain ⟨l1,l2,l3,l4,l5⟩:=M.lt
 refine J1z Tryz.func204 a204_ok rfl (by simp [a204]) ?_
 have ne:¬I.m=n∧¬I.m=n+1∧¬I.m=n+1+1∧¬I.m=n+1+1+1∧¬I.m=n+2∧¬n=I.m∧¬n+1=I.m∧¬n+1+1=I.m∧¬n+2=I.m∧¬n+1+1+1=I.m∧¬q=n∧¬q=n+1∧¬n=n+1∧¬n+1=n∧¬n=n+1+1∧¬n+1+1=n∧¬n+1=n+1+1∧¬n+2=n+1∧¬n+1=n+2∧¬n+3=I.m∧¬I.m=n+3:=by omega
 obtain ⟨vR,vP,vA,g1,g2,g3,g4,g6,g5⟩:=M.acc
 simp [a204,Jij,g1,J52,ne]
 first|refine J00 (J4t l hl) (by first|simp [J06,hq,ne];done|rfl) ?_|refine J01 (J4t l hl) (by first|simp [J06,hq,ne];done|rfl) ?_
 rintro r rfl
 rcases g2 with ⟨hz,rfl⟩|⟨i,hi,hin,rfl,hib⟩
 ·have hz':st.rows=[]:=by simpa using hz
  simp [J07,g1,J52,ne]
  refine ⟨by unfold LIM;omega,?_⟩
  refine hK _ _ (by omega) ?_ (M.upd_acc (st':=Jib st l) rfl rfl (by omega) (fun _=>False) (fun _ h=>h.elim) ?_ ?_)
  ·intro id hid hm _
   have:¬id=n∧¬id=n+1∧¬id=n+1+1∧¬id=n+1+1+1:=by omega
   simp [this,hm]
  ·intro id hid hm _
   have:¬id=n∧¬id=n+1∧¬id=n+1+1∧¬id=n+1+1+1:=by omega
   simp [this,hm]
  ·have fr:∀ id,id<n→I.x<id→¬id=n∧¬id=n+1∧¬id=n+1+1∧¬id=n+1+1+1∧¬id=I.m:=by intro id _ _;omega
   refine ⟨.ref (n+3) 0 1,vP,vA,by simp [J52],.inr ⟨n+3,by omega,by omega,by simp [Jib,hz'],by simp [Jib,hz',J07,ne]⟩,g3.keep (by omega) fun id hb hid _=>by simp [fr id hid hb],g4.keep (by omega) fun id hb hid _=>by simp [fr id hid hb],g6,?_⟩
   intro i k j l' e1 e2
   simp only [AV.ref.injEq] at e1
   rcases g3 with ⟨_,e⟩|⟨j',_,hj',e,_⟩
   ·rw [e] at e2;cases e2
   ·rw [e] at e2;simp only [AV.ref.injEq] at e2;omega
 ·have hi1:st.rows.length<1000001:=by omega
  have ni:¬i=n∧¬i=n+1∧¬i=n+1+1∧¬i=n+1+1+1∧¬i=I.m∧¬I.m=i∧¬n=i∧¬n+1=i∧¬n+1+1=i∧¬n+1+1+1=i:=by omega
  simp [J07,g1,J52,ne,ni,hib]
  refine ⟨by unfold LIM;omega,?_⟩
  refine hK _ _ (by omega) ?_ (M.upd_acc (st':=Jib st l) rfl rfl (by omega) (fun id=>id=i) (fun id e=>⟨by omega,fun l hl=>by rw [e,hib] at hl;simp at hl⟩) ?_ ?_)
  ·intro id hid hm h2
   have:¬id=n∧¬id=n+1∧¬id=n+1+1∧¬id=n+1+1+1:=by omega
   have hii:¬id=i:=fun e=>h2 _ (by rw [e];exact hib)
   simp [this,hm,hii]
  ·intro id hid hm hii
   have:¬id=n∧¬id=n+1∧¬id=n+1+1∧¬id=n+1+1+1:=by omega
   simp [this,hm,hii]
  ·have fr:∀ id,id<n→I.x<id→¬id=n∧¬id=n+1∧¬id=n+1+1∧¬id=n+1+1+1∧¬id=I.m:=by intro id _ _;omega
   refine ⟨.ref (n+3) 0 (st.rows.length+1),vP,vA,by simp [J52],.inr ⟨n+3,by omega,by omega,by simp [Jib],by simp [Jib,J07,ne,List.take_of_length_le]⟩,g3.keep (by omega) fun id hb hid e => ?_,g4.keep (by omega) fun id hb hid e => ?_,g6,?_⟩
   ·have hii:¬id=i:=fun e'=>g5 i _ id _ rfl e e'.symm
    simp [fr id hid hb,hii]
   ·have hii:¬id=i:=by
     intro e'
     rcases g4 with ⟨_,e2⟩|⟨j',_,_,e2,hjb⟩
     ·rw [e2] at e;cases e
     ·rw [e2] at e;simp only [AV.ref.injEq] at e
      rw [e.1,e',hib] at hjb
      simp at hjb
    simp [fr id hid hb,hii]
   ·intro i' k j l' e1 e2
    simp only [AV.ref.injEq] at e1
    rcases g3 with ⟨_,e⟩|⟨j',_,hj',e,_⟩
    ·rw [e] at e2;cases e2
    ·rw [e] at e2;simp only [AV.ref.injEq] at e2;omega
end
def a295:AFn:= ⟨5,[.t 2],(.seq (.reg [Zo 2 (.mv (.k (.bool false)))]) (.seq (.reg [Zv 3 0,Zc 4 102 [.t 3,(.k (.int .i64 (-1000000))),(.k (.int .i64 1000000))],Zv 2 4]) .ret))⟩
theorem a295_ok:J0a Tryz.prog Tryz.f295=some a295:=by kernel_rfl
def a318:AFn:= ⟨5,[.t 2],(.seq (.reg [Zo 2 (.mv (.k (.bool false)))]) (.seq (.reg [Zv 3 0,Zc 4 183 [.t 3,(.k (.int .i64 (-1000000))),(.k (.int .i64 1000000))],Zv 2 4]) .ret))⟩
theorem a318_ok:J0a Tryz.prog Tryz.f318=some a318:=by kernel_rfl
def a141:AFn:= ⟨18,[.t 2],(.seq (.reg [Zo 2 (.mv (.k (.bool false)))]) (.seq (.seq (.reg [Zv 5 0,Zo 6 (.len false (.t 5)),Zo 7 (.mv (.k (.int .i64 0)))]) (.blk 0 (.loop (.seq (.reg [Zo 8 (.bin .lss (.t 7) (.t 6))]) (.seq (.cond (.t 8) .skip (.exit 0)) (.seq (.blk 1 (.seq (.reg [Zv 9 7,Zo 10 (.ixa 1 (.t 5) (.t 7)),Zl 11 false 1 10,Zv 3 9,Zv 4 11]) (.seq (.reg [Zv 12 0,Zv 13 3,Zo 14 (.slc false 1 (.t 12) Option.none (some (.t 13))),Zv 15 4,Zc 16 72 [.t 14,.t 15]]) (.cond (.t 16) (.seq (.reg [Zo 2 (.mv (.k (.bool false)))]) .ret) .skip)))) (.reg [Zo 17 (.bin .add (.t 7) (.k (.int .i64 1))),Zv 7 17]))))))) (.seq (.reg [Zo 2 (.mv (.k (.bool true)))]) .ret)))⟩
theorem a141_ok:J0a Tryz.prog Tryz.f141=some a141:=by kernel_rfl
def a218:AFn:= ⟨18,[.t 2],(.seq (.reg [Zo 2 (.mv (.k (.bool false)))]) (.seq (.seq (.reg [Zo 3 (.mv (.k (.int .i64 0)))]) (.blk 0 (.loop (.seq (.seq (.reg [Zv 4 3,Zv 5 0,Zo 6 (.len false (.t 5)),Zo 7 (.bin .lss (.t 4) (.t 6))]) (.cond (.t 7) .skip (.exit 0))) (.seq (.blk 1 (.seq (.draw (.op (Zv 10 0) (.op (Zv 11 3) (.op (Zo 12 (.slc false 1 (.t 10) Option.none (some (.t 11)))) (.op (Zv 13 0) (.op (Zv 14 3) (.op (Zo 15 (.ixa 1 (.t 13) (.t 14))) (.op (Zl 16 false 1 15) (.op (Zc 17 224 [.t 12,.t 16]) .fin))))))))) (.cond (.t 17) (.seq (.reg [Zo 2 (.mv (.k (.bool false)))]) .ret) .skip))) (.reg [Zv 8 3,Zo 9 (.bin .add (.t 8) (.k (.int .i64 1))),Zv 3 9])))))) (.seq (.reg [Zo 2 (.mv (.k (.bool true)))]) .ret)))⟩
theorem a218_ok:J0a Tryz.prog Tryz.f218=some a218:=by kernel_rfl
def a296:AFn:= ⟨8,[.t 3],(.seq (.reg [Zo 3 (.mv (.k (.bool false)))]) (.seq (.reg [Zl 4 false 1 1,Zv 5 0,Zc 6 72 [.t 4,.t 5],Zo 7 (.un .not (.t 6)),Zv 3 7]) .ret))⟩
theorem a296_ok:J0a Tryz.prog Tryz.f296=some a296:=by kernel_rfl
def a238:AFn:= ⟨9,[.t 4],(.seq (.reg [Zo 3 (.boxv (.t 1)),Zo 4 (.mv (.k (.bool false)))]) (.seq (.reg [Zv 5 0,Zo 6 (.mkf (.func 296) [] [.t 3]),Zc 7 69 [.t 5,.t 6],Zo 8 (.un .not (.t 7)),Zv 4 8]) .ret))⟩
theorem a238_ok:J0a Tryz.prog Tryz.f238=some a238:=by kernel_rfl
def a137:AFn:= ⟨29,[.t 4],(.seq (.reg [Zo 4 (.mv (.k (.nil 1)))]) (.seq (.reg [Zo 7 (.bsl 1 []),Zv 5 7]) (.seq (.seq (.reg [Zo 6 (.mv (.k (.int .i64 0)))]) (.blk 0 (.loop (.seq (.seq (.reg [Zv 8 6,Zv 9 0,Zo 10 (.len false (.t 9)),Zo 11 (.bin .lss (.t 8) (.t 10))]) (.cond (.t 11) .skip (.exit 0))) (.seq (.blk 1 (.seq (.reg [Zv 14 1,Zv 15 0,Zv 16 6,Zo 17 (.ixa 1 (.t 15) (.t 16)),Zl 18 false 1 17,Zc 19 224 [.t 14,.t 18],Zo 20 (.un .not (.t 19))]) (.cond (.t 20) (.reg [Zv 21 5,Zv 22 0,Zv 23 6,Zo 24 (.ixa 1 (.t 22) (.t 23)),Zl 25 false 1 24,Zo 26 (.bsl 1 [.t 25]),Zo 27 (.app 16 1 (.t 21) (.t 26)),Zv 5 27]) .skip))) (.reg [Zv 12 6,Zo 13 (.bin .add (.t 12) (.k (.int .i64 1))),Zv 6 13])))))) (.seq (.reg [Zv 28 5,Zv 4 28]) .ret))))⟩
theorem a137_ok:J0a Tryz.prog Tryz.f137=some a137:=by kernel_rfl
theorem a69_ok:J0a Tryz.prog Tryz.f69=some (J2r 150):=by kernel_rfl
theorem a150_ok:J0a Tryz.prog Tryz.f150=some (J3h false 1):=by kernel_rfl
theorem a297_ok:J0a Tryz.prog Tryz.f297=some (J2r 323):=by kernel_rfl
theorem a323_ok:J0a Tryz.prog Tryz.f323=some (J3h true 2):=by kernel_rfl
theorem Jgt {P:Program}{s:Env}{h:Heap}{n:Nat}{Q:Fin}{ks:List Kt}{c:Nat}{e:AC}(hc:s c = .bool false) (h1:J25 P ks .normal s h n Q):rC P (.cond (.t c) e .skip) ks s h n Q:=by
 rw [Ja3]
 have:ev s (.t c) = .bool false:=hc
 rw [this]
 simpa using h1
theorem Jlg (n:Int):Holds Tryz.prog 295 [i64 n] (fun r=>r = .bool (Jmb n)):=by
 refine J02 Tryz.func295 a295_ok rfl (by simp [a295]) ?_
 simp [a295]
 first|refine J00 (J1v n (-1000000) 1000000) (by first|simp;done|rfl) ?_|refine J01 (J1v n (-1000000) 1000000) (by first|simp;done|rfl) ?_
 rintro r rfl
 simp
 rfl
theorem Jgy (n:Int):Holds Tryz.prog 318 [i64 n] (fun r=>r = .bool (Jmb n)):=by
 refine J02 Tryz.func318 a318_ok rfl (by simp [a318]) ?_
 simp [a318]
 first|refine J00 (J43 n (-1000000) 1000000) (by first|simp;done|rfl) ?_|refine J01 (J43 n (-1000000) 1000000) (by first|simp;done|rfl) ?_
 rintro r rfl
 simp
 rfl
theorem J6g (l:List Str):Holds Tryz.prog 141 [.sl 1 (J0d l)] (fun r=>r = .bool (J7x l)):=by
 refine J1k Tryz.func141 rfl rfl fun hl => ?_
 simp at hl
 refine J02 Tryz.func141 a141_ok rfl (by simp [a141]) ?_
 simp [a141]
 intro _
 unfold J7x
 generalize hB:J40 [] l=B
 refine J4m [0,5,6] 7 l.length (fun i _=>J40 (l.take i) (l.drop i)=B) hl (by simp) (by simpa using hB) ?_ ?_
 ·rintro i st h R hi hg hk s7 hw hJ hh hR hret _
  simp at hk
  rw [List.drop_eq_getElem_cons hi] at hJ
  simp only [J40] at hJ
  rw [List.take_append_getElem hi] at hJ
  simp [hk,s7,hi,hg,J3z,asI]
  refine ⟨by omega,?_⟩
  have ht:List.take i (J0d l)=J0d (l.take i):=by simp [J0d]
  first|refine J00 (J6k (l.take i) (l[i]'hi)) (by first|simp [ht];done|rfl) ?_|refine J01 (J6k (l.take i) (l[i]'hi)) (by first|simp [ht];done|rfl) ?_
  rintro r rfl
  cases hc:J3x (l.take i) l[i]
  ·rw [hc] at hJ
   simp at hJ
   simp [hk,s7,hw]
   exact hR _ (by simp [hk]) (by simp) hJ
  ·rw [hc] at hJ
   simp at hJ
   simp
   refine hret _ _ _ ?_
   simp [hJ]
 ·rintro st h R hk s7 hJ hh _ hX
  simp at hk
  rw [List.drop_eq_nil_of_le (by omega)] at hJ
  simp [hk,s7]
  refine hX _ _ ?_
  simp [←hJ,J40]
theorem J3y (l:List Str):Holds Tryz.prog 218 [.sl 1 (J0d l)] (fun r=>r = .bool (J7x l)):=by
 refine J1k Tryz.func218 rfl rfl fun hl => ?_
 simp at hl
 refine J02 Tryz.func218 a218_ok rfl (by simp [a218]) ?_
 simp [a218]
 unfold J7x
 generalize hB:J40 [] l=B
 refine J4m [0] 3 l.length (fun i _=>J40 (l.take i) (l.drop i)=B) hl (by simp) (by simpa using hB) ?_ ?_
 ·rintro i st h R hi hg hk s3 hw hJ hh hR hret _
  simp at hk
  rw [List.drop_eq_getElem_cons hi] at hJ
  simp only [J40] at hJ
  rw [List.take_append_getElem hi] at hJ
  simp [hk,s3,hi,hg,J3z,asI]
  intro _
  refine ⟨by omega,?_⟩
  have ht:List.take i (J0d l)=J0d (l.take i):=by simp [J0d]
  first|refine J00 (J98 (l.take i) (l[i]'hi)) (by first|simp [ht];done|rfl) ?_|refine J01 (J98 (l.take i) (l[i]'hi)) (by first|simp [ht];done|rfl) ?_
  rintro r rfl
  cases hc:J3x (l.take i) l[i]
  ·rw [hc] at hJ
   simp at hJ
   simp [hk,s3,hw]
   exact hR _ (by simp [hk]) (by simp) hJ
  ·rw [hc] at hJ
   simp at hJ
   simp
   refine hret _ _ _ ?_
   simp [hJ]
 ·rintro st h R hk s3 hJ hh _ hX
  simp at hk
  rw [List.drop_eq_nil_of_le (by omega)] at hJ
  simp [hk,s3]
  intro _
  refine hX _ _ ?_
  simp [←hJ,J40]
theorem Jsi (l scope:List Str):(l.any fun s => !J3x scope s) = !Jm9 l scope:=by unfold Jm9;rw [J88]
theorem Jlt {h:Heap}{n id:Nat}{scope:List Str}(x:Str) (hv:h id=some ⟨true,1,[[.sl 1 (J0d scope)]]⟩) (hid:id<n):Jf2 Tryz.prog 296 [] [.ptr id 0 0] h n (.str x) (.bool (!J3x scope x)):=by
 intro K hK
 refine J9a ?_
 refine J1z Tryz.func296 a296_ok rfl (by simp [a296]) ?_
 have n1:¬id=n:=by omega
 simp [a296,hv,n1]
 first|refine J00 (J6k scope x) (by first|simp;done|rfl) ?_|refine J01 (J6k scope x) (by first|simp;done|rfl) ?_
 rintro r rfl
 simp [Jo0,hK]
theorem J8t (l scope:List Str):Holds Tryz.prog 238 [.sl 1 (J0d l),.sl 1 (J0d scope)] (fun r=>r = .bool (Jm9 l scope)):=by
 refine J02 Tryz.func238 a238_ok rfl (by simp [a238]) ?_
 simp [a238]
 refine J1e (p:=fun s => !J3x scope s) (rowOf:=fun s=>[.str s]) (eltOf:=fun s => .str s) Tryz.func69 a69_ok rfl Tryz.func150 a150_ok rfl (fun x=>by simp) l
  (fun x _=>Jlt (scope:=scope) x (by simp) (by omega)) ?_
 rw [Jsi]
 simp
theorem Jin {l scope:List Str}{i:Nat}(hi:i<l.length):J6i (l.drop i) scope=(if J3x scope l[i] then [] else [l[i]])++J6i (l.drop (i+1)) scope:=by
 rw [List.drop_eq_getElem_cons hi]
 unfold J6i
 rw [List.filter_cons]
 cases J3x scope l[i] <;> simp
theorem Jf8 (l scope:List Str) (hl:l.length≤1048576):Holds Tryz.prog 137 [.sl 1 (J0d l),.sl 1 (J0d scope)] (fun r=>r = .us 1 (J0d (J6i l scope))):=by
 refine J02 Tryz.func137 a137_ok rfl (by simp [a137]) ?_
 simp [a137]
 generalize hB:J6i l scope=B
 have hBl:B.length≤l.length:=by rw [←hB];exact List.length_filter_le _ _
 refine J0k [0,1] 6 l.length (fun i s h n=>∃ (acc:List Str) (id:Nat),s 5 = .ref id 0 acc.length∧h id=some ⟨false,1,J0d acc⟩∧id<n∧acc++J6i (l.drop i) scope=B)
  (by unfold LIM;omega) (by simp) ⟨[],0,by simp,by simp [J0d],by simp,by simpa using hB⟩ ?_ ?_
 ·rintro i st h n R hi hg hk s6 hw ⟨acc,id,s5,eid,hidn,hJ⟩ hR _ _
  simp at hk
  rw [Jin hi] at hJ
  have hal:=congrArg List.length hJ
  simp only [List.length_append] at hal
  simp [hk,s6,hi,hg]
  intro _
  first|refine J00 (J98 scope (l[i]'hi)) (by first|simp;done|rfl) ?_|refine J01 (J98 scope (l[i]'hi)) (by first|simp;done|rfl) ?_
  rintro r rfl
  have n0:¬id=n:=by omega
  have n1:¬id=n+1:=by omega
  have n2:¬n+1=id:=by omega
  have n3:¬n=id:=by omega
  cases hc:J3x scope l[i]
  ·rw [hc] at hJ hal
   simp at hJ hal
   simp [hk,s6,hi,hg,s5,eid,n0,n1,n2,n3,hw]
   refine ⟨by unfold LIM;omega,?_⟩
   exact hR _ _ _ (by simp [hk]) (by simp) ⟨acc++[l[i]],n+1,by simp,by simp [J0d],by omega,by simpa using hJ⟩
  ·rw [hc] at hJ
   simp at hJ
   simp [hk,s6,hi,hg,hw]
   exact hR _ _ _ (by simp [hk]) (by simp) ⟨acc,id,by simp [s5],by simp [eid],by omega,hJ⟩
 ·rintro st h n R hk s6 ⟨acc,id,s5,eid,hidn,hJ⟩ hret hX
  simp at hk
  rw [List.drop_eq_nil_of_le (by omega)] at hJ
  simp [J6i] at hJ
  subst hJ
  simp [hk,s6]
  intro _
  refine hX _ _ _ _ ?_
  simp [s5,eid]
def a237:AFn:= ⟨55,[.t 2],(.seq (.reg [Zo 1 (.boxv (.t 0)),Zo 2 (.mv (.k (.bool false)))]) (.seq (.seq (.reg [Zf 5 0 1,Zl 6 false 1 5,Zc 7 295 [.t 6],Zo 8 (.un .not (.t 7)),Zv 9 8,⟨some 10,.fld 1 (.t 1),(some (9,false))⟩,⟨some 11,.ld false 1 (.t 10),(some (9,false))⟩,⟨some 12,.len false (.t 11),(some (9,false))⟩,⟨some 13,.bin .gtr (.t 12) (.k (.int .i64 4)),(some (9,false))⟩,Zo 14 (.pick (.t 9) (.k (.bool true)) (.t 13))]) (.cond (.t 14) (.seq (.reg [Zo 2 (.mv (.k (.bool false)))]) .ret) .skip)) (.seq (.seq (.reg [Zf 15 1 1,Zl 16 false 1 15,Zo 17 (.len false (.t 16)),Zo 18 (.mv (.k (.int .i64 0)))]) (.blk 0 (.loop (.seq (.reg [Zo 19 (.bin .lss (.t 18) (.t 17))]) (.seq (.cond (.t 19) .skip (.exit 0)) (.seq (.blk 1 (.seq (.reg [Zv 20 18,Zo 21 (.ixa 2 (.t 16) (.t 18)),Zl 22 true 2 21,Zo 4 (.box [(.int .i64 0),(.str [])]),Zv 3 20,⟨no,.st 2 (.t 4) (.t 22),no⟩]) (.seq (.draw (.op (Zf 23 0 4) (.op (Zl 24 false 1 23) (.op (Zo 25 (.bin .eql (.t 24) (.k (.int .i64 0)))) (.op (Zv 26 25) (.op ⟨some 27,.fld 0 (.t 4),(some (26,false))⟩ (.op ⟨some 28,.ld false 1 (.t 27),(some (26,false))⟩ (.op ⟨some 29,.call (.k (.fn (.func 295) [] [])) [.t 28],(some (26,false))⟩ (.op ⟨some 30,.un .not (.t 29),(some (26,false))⟩ (.op (Zo 31 (.pick (.t 26) (.k (.bool true)) (.t 30))) (.op (Zv 32 31) (.op ⟨some 33,.fld 1 (.t 4),(some (32,false))⟩ (.op ⟨some 34,.ld false 1 (.t 33),(some (32,false))⟩ (.op ⟨some 35,.call (.k (.fn (.func 140) [] [])) [.t 34],(some (32,false))⟩ (.op ⟨some 36,.un .not (.t 35),(some (32,false))⟩ (.op (Zo 37 (.pick (.t 32) (.k (.bool true)) (.t 36))) (.op (Zv 38 37) (.op ⟨some 39,.mv (.t 3),(some (38,false))⟩ (.op ⟨some 40,.bin .gtr (.t 39) (.k (.int .i64 0)),(some (38,false))⟩ (.op ⟨some 41,.mv (.t 40),(some (38,false))⟩ (.op ⟨some 42,.fld 1 (.t 1),(some (41,true))⟩ (.op ⟨some 43,.ld false 1 (.t 42),(some (41,true))⟩ (.op ⟨some 44,.mv (.t 3),(some (41,true))⟩ (.op ⟨some 45,.bin .sub (.t 44) (.k (.int .i64 1)),(some (41,true))⟩ (.op ⟨some 46,.ixa 2 (.t 43) (.t 45),(some (41,true))⟩ (.op ⟨some 47,.fld 1 (.t 46),(some (41,true))⟩ (.op ⟨some 48,.ld false 1 (.t 47),(some (41,true))⟩ (.op ⟨some 49,.fld 1 (.t 4),(some (41,true))⟩ (.op ⟨some 50,.ld false 1 (.t 49),(some (41,true))⟩ (.op ⟨some 51,.bin .geq (.t 48) (.t 50),(some (41,true))⟩ (.op ⟨some 52,.pick (.t 41) (.t 51) (.k (.bool false)),(some (38,false))⟩ (.op (Zo 53 (.pick (.t 38) (.k (.bool true)) (.t 52))) .fin)))))))))))))))))))))))))))))))) (.cond (.t 53) (.seq (.reg [Zo 2 (.mv (.k (.bool false)))]) .ret) .skip)))) (.reg [Zo 54 (.bin .add (.t 18) (.k (.int .i64 1))),Zv 18 54]))))))) (.seq (.reg [Zo 2 (.mv (.k (.bool true)))]) .ret))))⟩
theorem a237_ok:J0a Tryz.prog Tryz.f237=some a237:=by kernel_rfl
def Jcs (l:List DTerm) (i:Nat):Option Str:=if i=0 then Option.none else (l[i - 1]?).map (·.Name)
theorem J95 {l:List DTerm}{i:Nat}(hi:i<l.length):Jcs l (i+1)=some (l[i]).Name:=by simp [Jcs,hi]
set_option maxHeartbeats 1000000 in
theorem J7c (x:DSum):Holds Tryz.prog 237 [.agg (J1g x)] (fun r=>r = .bool (J8o x)):=by
 refine J02 Tryz.func237 a237_ok rfl (by simp [a237]) ?_
 simp [a237,J1g]
 first|refine J00 (Jlg x.Const) (by first|simp;done|rfl) ?_|refine J01 (Jlg x.Const) (by first|simp;done|rfl) ?_
 rintro r rfl
 unfold J8o
 cases h1:Jmb x.Const
 ·simp
 simp
 intro hl
 have hd:decide (x.Terms.length≤4)=decide ((x.Terms.length:Int)≤4):=by rw [decide_eq_decide];omega
 rw [hd]
 by_cases h2:(x.Terms.length:Int)≤4
 case neg=>
  have h2n:¬x.Terms.length≤4:=by omega
  simp [h2,h2n,Int.not_le.1 h2]
 simp [h2,Int.not_lt.2 h2]
 intro _
 generalize hB:J64 Option.none x.Terms=B
 refine J0k [1,16,17] 18 x.Terms.length (fun i s h n=>0<n∧h 0=some ⟨true,2,[[i64 x.Const,.sl 2 (x.Terms.map J10)]]⟩∧J64 (Jcs x.Terms i) (x.Terms.drop i)=B) hl (by simp) ⟨by simp,by simp,by simpa [Jcs] using hB⟩ ?_ ?_
 ·rintro i st h n R hi hg hk s18 hw ⟨hn,e0,hJ⟩ hR hret _
  simp at hk
  rw [List.drop_eq_getElem_cons hi] at hJ
  simp only [J64] at hJ
  have z0:¬0=n:=by omega
  refine J0g [1,16,17,18] (fun s=>s 19 = .bool true) (by simp [hk,s18,hi]) ?_
  intro st1 hk1 s19
  simp at hk1
  refine J2m s19 (J09 (J0t ?_))
  refine J17 [1,16,17,18] (fun s h' n'=>s 3 = .int .i64 i∧s 4 = .ptr n 0 0∧n'=n+1∧h' n=some ⟨true,2,[J10 x.Terms[i]]⟩∧h' 0=some ⟨true,2,[[i64 x.Const,.sl 2 (x.Terms.map J10)]]⟩) (by simp [hk,hk1,s18,hi,J10,e0,z0]) ?_
  rintro st2 h2 n2 hk2 ⟨s3,s4,rfl,en,e0'⟩
  simp at hk2
  obtain ⟨bad,hbad⟩:∃ bad,bad=(((x.Terms[i]).Coeff==0 || !Jmb (x.Terms[i]).Coeff || !J28 (x.Terms[i]).Name)||(match Jcs x.Terms i with|Option.none=>false|some q => !(Op.bytesLess q (x.Terms[i]).Name))):=⟨_,rfl⟩
  refine J0g [1,16,17,18] (fun s=>s 53 = .bool bad) ?_ ?_
  ·subst hbad
   by_cases c0:(x.Terms[i]).Coeff=0
   ·simp [hk,hk1,hk2,s18,hi,J10,e0',en,z0,s3,s4,c0]
   simp [hk,hk1,hk2,s18,hi,J10,e0',en,z0,s3,s4,c0]
   first|refine J00 (Jlg (x.Terms[i]'hi).Coeff) (by first|simp;done|rfl) ?_|refine J01 (Jlg (x.Terms[i]'hi).Coeff) (by first|simp;done|rfl) ?_
   rintro r rfl
   cases c1:Jmb (x.Terms[i]).Coeff
   ·simp [hk,hk1,hk2,s18,hi,J10,e0',en,z0,s3,s4]
   simp [hk,hk1,hk2,s18,hi,J10,e0',en,z0,s3,s4]
   first|refine J00 (J4d (x.Terms[i]'hi).Name) (by first|simp;done|rfl) ?_|refine J01 (J4d (x.Terms[i]'hi).Name) (by first|simp;done|rfl) ?_
   rintro r rfl
   cases c2:J28 (x.Terms[i]).Name
   ·simp [hk,hk1,hk2,s18,hi,J10,e0',en,z0,s3,s4]
   cases i with
   | zero=>simp [hk,hk1,hk2,s18,hi,J10,e0',en,z0,s3,s4,Jcs,c0,c1,c2]
   | succ i=>
    have hi':i<x.Terms.length:=by omega
    have hwr:IntKind.i64.wrap (i:Int)=i:=J19 (by unfold LIM at hl;omega)
    simp [hk,hk1,hk2,s18,hi,hi',J10,e0',en,z0,s3,s4,J95 hi',hwr,c0,c1,c2]
  intro st3 hk3 s53
  simp at hk3
  have hJ':(!bad&&J64 (some (x.Terms[i]).Name) (x.Terms.drop (i+1)))=B:=by
   rw [←hJ,hbad]
   cases ((x.Terms[i]).Coeff==0) <;> cases (Jmb (x.Terms[i]).Coeff) <;> cases (J28 (x.Terms[i]).Name) <;> cases (Jcs x.Terms i) <;> simp
  rw [←J95 hi] at hJ'
  clear hJ hbad
  cases bad
  ·simp [hk,hk1,hk2,hk3,s18,s53,hw]
   exact hR _ _ _ (by simp [hk,hk1,hk2,hk3]) (by simp) ⟨by omega,by simp [e0'],by simpa using hJ'⟩
  ·simp [hk,hk1,hk2,hk3,s18,s53,hw]
   simp at hJ'
   refine hret _ _ _ ?_
   simp [hJ']
 ·rintro st h n R hk s18 ⟨hn,e0,hJ⟩ hret hX
  simp at hk
  rw [List.drop_eq_nil_of_le (by omega)] at hJ
  refine J0g [1,16,17,18] (fun s=>s 19 = .bool false) (by simp [hk,s18]) ?_
  intro st1 hk1 s19
  simp at hk1
  refine J2g s19 ?_
  simp
  refine hX _ _ _ _ ?_
  simp [←hJ,J64]
def a286:AFn:= ⟨62,[.t 2],(.seq (.reg [Zo 1 (.boxv (.t 0)),Zo 2 (.mv (.k (.bool false)))]) (.seq (.seq (.reg [Zo 3 (.mv (.k (.int .i64 0)))]) (.blk 0 (.loop (.seq (.seq (.reg [Zv 5 3,Zf 6 1 1,Zl 7 false 1 6,Zo 8 (.len false (.t 7)),Zo 9 (.bin .lss (.t 5) (.t 8))]) (.cond (.t 9) .skip (.exit 0))) (.seq (.blk 1 (.seq (.reg [Zf 12 1 1,Zl 13 false 1 12,Zv 14 3,Zo 15 (.ixa 2 (.t 13) (.t 14)),Zl 16 true 2 15,Zo 4 (.box [(.int .i64 0),(.str [])]),⟨no,.st 2 (.t 4) (.t 16),no⟩]) (.seq (.draw (.op (Zf 17 0 4) (.op (Zl 18 false 1 17) (.op (Zo 19 (.bin .eql (.t 18) (.k (.int .i64 0)))) (.op (Zv 20 19) (.op ⟨some 21,.fld 0 (.t 4),(some (20,false))⟩ (.op ⟨some 22,.ld false 1 (.t 21),(some (20,false))⟩ (.op ⟨some 23,.call (.k (.fn (.func 318) [] [])) [.t 22],(some (20,false))⟩ (.op ⟨some 24,.un .not (.t 23),(some (20,false))⟩ (.op (Zo 25 (.pick (.t 20) (.k (.bool true)) (.t 24))) (.op (Zv 26 25) (.op ⟨some 27,.fld 1 (.t 4),(some (26,false))⟩ (.op ⟨some 28,.ld false 1 (.t 27),(some (26,false))⟩ (.op ⟨some 29,.call (.k (.fn (.func 285) [] [])) [.t 28],(some (26,false))⟩ (.op ⟨some 30,.un .not (.t 29),(some (26,false))⟩ (.op (Zo 31 (.pick (.t 26) (.k (.bool true)) (.t 30))) (.op (Zv 32 31) (.op ⟨some 33,.fld 1 (.t 4),(some (32,false))⟩ (.op ⟨some 34,.ld false 1 (.t 33),(some (32,false))⟩ (.op ⟨some 35,.call (.k (.fn (.func 260) [] [])) [.t 34],(some (32,false))⟩ (.op (Zo 36 (.pick (.t 32) (.k (.bool true)) (.t 35))) (.op (Zv 37 36) (.op ⟨some 38,.mv (.t 3),(some (37,false))⟩ (.op ⟨some 39,.bin .gtr (.t 38) (.k (.int .i64 0)),(some (37,false))⟩ (.op ⟨some 40,.mv (.t 39),(some (37,false))⟩ (.op ⟨some 41,.fld 1 (.t 1),(some (40,true))⟩ (.op ⟨some 42,.ld false 1 (.t 41),(some (40,true))⟩ (.op ⟨some 43,.mv (.t 3),(some (40,true))⟩ (.op ⟨some 44,.bin .sub (.t 43) (.k (.int .i64 1)),(some (40,true))⟩ (.op ⟨some 45,.ixa 2 (.t 42) (.t 44),(some (40,true))⟩ (.op ⟨some 46,.fld 1 (.t 45),(some (40,true))⟩ (.op ⟨some 47,.ld false 1 (.t 46),(some (40,true))⟩ (.op ⟨some 48,.fld 1 (.t 4),(some (40,true))⟩ (.op ⟨some 49,.ld false 1 (.t 48),(some (40,true))⟩ (.op ⟨some 50,.bin .geq (.t 47) (.t 49),(some (40,true))⟩ (.op ⟨some 51,.pick (.t 40) (.t 50) (.k (.bool false)),(some (37,false))⟩ (.op (Zo 52 (.pick (.t 37) (.k (.bool true)) (.t 51))) .fin))))))))))))))))))))))))))))))))))))) (.cond (.t 52) (.seq (.reg [Zo 2 (.mv (.k (.bool false)))]) .ret) .skip)))) (.reg [Zv 10 3,Zo 11 (.bin .add (.t 10) (.k (.int .i64 1))),Zv 3 11])))))) (.seq (.reg [Zf 53 0 1,Zl 54 false 1 53,Zc 55 318 [.t 54],Zv 56 55,⟨some 57,.fld 1 (.t 1),(some (56,true))⟩,⟨some 58,.ld false 1 (.t 57),(some (56,true))⟩,⟨some 59,.len false (.t 58),(some (56,true))⟩,⟨some 60,.bin .leq (.t 59) (.k (.int .i64 4)),(some (56,true))⟩,Zo 61 (.pick (.t 56) (.t 60) (.k (.bool false))),Zv 2 61]) .ret)))⟩
theorem a286_ok:J0a Tryz.prog Tryz.f286=some a286:=by kernel_rfl
set_option maxHeartbeats 1000000 in
theorem J6a (x:DSum):Holds Tryz.prog 286 [.agg (J1g x)] (fun r=>r = .bool (J8o x)):=by
 refine J1k Tryz.func286 rfl rfl fun hl => ?_
 simp [J1g] at hl
 refine J02 Tryz.func286 a286_ok rfl (by simp [a286]) ?_
 simp [a286,J1g]
 unfold J8o
 generalize hB:J64 Option.none x.Terms=B
 refine J0k [1] 3 x.Terms.length (fun i s h n=>0<n∧h 0=some ⟨true,2,[[i64 x.Const,.sl 2 (x.Terms.map J10)]]⟩∧J64 (Jcs x.Terms i) (x.Terms.drop i)=B) hl (by simp) ⟨by simp,by simp,by simpa [Jcs] using hB⟩ ?_ ?_
 ·rintro i st h n R hi hg hk s3x hw ⟨hn,e0,hJ⟩ hR hret _
  simp at hk
  rw [List.drop_eq_getElem_cons hi] at hJ
  simp only [J64] at hJ
  have z0:¬0=n:=by omega
  refine J09 ?_
  refine J0g [1,3] (fun s=>s 9 = .bool true) (by simp [hk,s3x,hi,e0]) ?_
  intro st1 hk1 s9
  simp at hk1
  refine J1u s9 (J09 (J0t ?_))
  refine J17 [1,3] (fun s h' n'=>s 4 = .ptr n 0 0∧n'=n+1∧h' n=some ⟨true,2,[J10 x.Terms[i]]⟩∧h' 0=some ⟨true,2,[[i64 x.Const,.sl 2 (x.Terms.map J10)]]⟩) (by simp [hk,hk1,s3x,hi,J10,e0,z0]) ?_
  rintro st2 h2 n2 hk2 ⟨s4,rfl,en,e0'⟩
  simp at hk2
  obtain ⟨bad,hbad⟩:∃ bad,bad=(((x.Terms[i]).Coeff==0 || !Jmb (x.Terms[i]).Coeff || !J28 (x.Terms[i]).Name)||(match Jcs x.Terms i with|Option.none=>false|some q => !(Op.bytesLess q (x.Terms[i]).Name))):=⟨_,rfl⟩
  refine J0g [1,3] (fun s=>s 52 = .bool bad) ?_ ?_
  ·subst hbad
   by_cases c0:(x.Terms[i]).Coeff=0
   ·simp (maxSteps:=1000000) [hk,hk1,hk2,s3x,hi,J10,e0',en,z0,s4,c0]
   simp (maxSteps:=1000000) [hk,hk1,hk2,s3x,hi,J10,e0',en,z0,s4,c0]
   first|refine J00 (Jgy (x.Terms[i]'hi).Coeff) (by first|simp;done|rfl) ?_|refine J01 (Jgy (x.Terms[i]'hi).Coeff) (by first|simp;done|rfl) ?_
   rintro r rfl
   cases c1:Jmb (x.Terms[i]).Coeff
   ·simp (maxSteps:=1000000) [hk,hk1,hk2,s3x,hi,J10,e0',en,z0,s4]
   simp (maxSteps:=1000000) [hk,hk1,hk2,s3x,hi,J10,e0',en,z0,s4]
   first|refine J00 (J2t (x.Terms[i]'hi).Name) (by first|simp;done|rfl) ?_|refine J01 (J2t (x.Terms[i]'hi).Name) (by first|simp;done|rfl) ?_
   rintro r rfl
   unfold J28
   cases c2:J37 (x.Terms[i]).Name
   ·simp (maxSteps:=1000000) [hk,hk1,hk2,s3x,hi,J10,e0',en,z0,s4]
   simp (maxSteps:=1000000) [hk,hk1,hk2,s3x,hi,J10,e0',en,z0,s4]
   first|refine J00 (J18 (x.Terms[i]'hi).Name) (by first|simp;done|rfl) ?_|refine J01 (J18 (x.Terms[i]'hi).Name) (by first|simp;done|rfl) ?_
   rintro r rfl
   cases c3:J0l (x.Terms[i]).Name
   case true=>simp (maxSteps:=1000000) [hk,hk1,hk2,s3x,hi,J10,e0',en,z0,s4]
   cases i with
   | zero=>simp (maxSteps:=1000000) [hk,hk1,hk2,s3x,hi,J10,e0',en,z0,s4,Jcs,c0,c1,c2]
   | succ i=>
    have hi':i<x.Terms.length:=by omega
    have hwr:IntKind.i64.wrap (i:Int)=i:=J19 (by unfold LIM at hl;omega)
    simp (maxSteps:=1000000) [hk,hk1,hk2,s3x,hi,hi',J10,e0',en,z0,s4,J95 hi',hwr,c0,c1,c2]
  intro st3 hk3 s52
  simp at hk3
  have hJ':(!bad&&J64 (some (x.Terms[i]).Name) (x.Terms.drop (i+1)))=B:=by
   rw [←hJ,hbad]
   cases ((x.Terms[i]).Coeff==0) <;> cases (Jmb (x.Terms[i]).Coeff) <;> cases (J28 (x.Terms[i]).Name) <;> cases (Jcs x.Terms i) <;> simp
  rw [←J95 hi] at hJ'
  clear hJ hbad
  cases bad
  ·simp (maxSteps:=1000000) [hk,hk1,hk2,hk3,s3x,s52,hw]
   exact hR _ _ _ (by simp [hk,hk1,hk2,hk3]) (by simp) ⟨by omega,by simp [e0'],by simpa using hJ'⟩
  ·simp (maxSteps:=1000000) [hk,hk1,hk2,hk3,s3x,s52,hw]
   simp at hJ'
   refine hret _ _ _ ?_
   simp [hJ']
 ·rintro st h n R hk s3 ⟨hn,e0,hJ⟩ hret hX
  simp at hk
  rw [List.drop_eq_nil_of_le (by omega)] at hJ
  refine J09 ?_
  refine J0g [1,3] (fun s=>s 9 = .bool false) (by simp [hk,s3,e0]) ?_
  intro st1 hk1 s9
  simp at hk1
  refine J1s s9 ?_
  simp
  refine hX _ _ _ _ ?_
  simp [J64] at hJ
  subst hJ
  simp [hk,hk1,e0]
  first|refine J00 (Jgy x.Const) (by first|simp;done|rfl) ?_|refine J01 (Jgy x.Const) (by first|simp;done|rfl) ?_
  rintro r rfl
  cases h1:Jmb x.Const
  ·simp
  have hd:decide (x.Terms.length≤4)=decide ((x.Terms.length:Int)≤4):=by rw [decide_eq_decide];omega
  simp [hk,hk1,e0,hd]
def a298:AFn:= ⟨6,[.t 2],(.seq (.reg [Zo 1 (.boxv (.t 0)),Zo 2 (.mv (.k (.bool false)))]) (.seq (.reg [Zl 3 true 2 1,Zc 4 237 [.t 3],Zo 5 (.un .not (.t 4)),Zv 2 5]) .ret))⟩
theorem a298_ok:J0a Tryz.prog Tryz.f298=some a298:=by kernel_rfl
def a242:AFn:= ⟨32,[.t 2],(.seq (.reg [Zo 1 (.boxv (.t 0)),Zo 2 (.mv (.k (.bool false)))]) (.seq (.seq (.reg [Zf 3 1 1,Zl 4 false 1 3,Zc 5 297 [.t 4,(.k (.fn (.func 298) [] []))]]) (.cond (.t 5) (.seq (.reg [Zo 2 (.mv (.k (.bool false)))]) .ret) .skip)) (.seq (.seq (.reg [Zf 6 0 1,Zl 7 false 1 6,Zo 8 (.un .not (.t 7))]) (.cond (.t 8) (.seq (.reg [Zf 9 1 1,Zl 10 false 1 9,Zo 11 (.len false (.t 10)),Zo 12 (.bin .eql (.t 11) (.k (.int .i64 1))),Zv 13 12,⟨some 14,.fld 2 (.t 1),(some (13,true))⟩,⟨some 15,.ld false 1 (.t 14),(some (13,true))⟩,⟨some 16,.bin .eql (.t 15) (.k (.str [])),(some (13,true))⟩,Zo 17 (.pick (.t 13) (.t 16) (.k (.bool false))),Zv 2 17]) .ret) .skip)) (.seq (.reg [Zf 18 1 1,Zl 19 false 1 18,Zo 20 (.len false (.t 19)),Zo 21 (.bin .leq (.t 20) (.k (.int .i64 3))),Zv 22 21,⟨some 23,.fld 2 (.t 1),(some (22,true))⟩,⟨some 24,.ld false 1 (.t 23),(some (22,true))⟩,⟨some 25,.bin .eql (.t 24) (.k (.str [])),(some (22,true))⟩,⟨some 26,.mv (.t 25),(some (22,true))⟩,⟨some 27,.fld 2 (.t 1),(some (26,false))⟩,⟨some 28,.ld false 1 (.t 27),(some (26,false))⟩,⟨some 29,.call (.k (.fn (.func 205) [] [])) [.t 28],(some (26,false))⟩,⟨some 30,.pick (.t 26) (.k (.bool true)) (.t 29),(some (22,true))⟩,Zo 31 (.pick (.t 22) (.t 30) (.k (.bool false))),Zv 2 31]) .ret))))⟩
theorem a242_ok:J0a Tryz.prog Tryz.f242=some a242:=by kernel_rfl
def a287:AFn:= ⟨44,[.t 2],(.seq (.reg [Zo 1 (.boxv (.t 0)),Zo 2 (.mv (.k (.bool false)))]) (.seq (.seq (.reg [Zo 3 (.mv (.k (.int .i64 0)))]) (.blk 0 (.loop (.seq (.seq (.reg [Zv 4 3,Zf 5 1 1,Zl 6 false 1 5,Zo 7 (.len false (.t 6)),Zo 8 (.bin .lss (.t 4) (.t 7))]) (.cond (.t 8) .skip (.exit 0))) (.seq (.blk 1 (.seq (.reg [Zf 11 1 1,Zl 12 false 1 11,Zv 13 3,Zo 14 (.ixa 2 (.t 12) (.t 13)),Zl 15 true 2 14,Zc 16 286 [.t 15],Zo 17 (.un .not (.t 16))]) (.cond (.t 17) (.seq (.reg [Zo 2 (.mv (.k (.bool false)))]) .ret) .skip))) (.reg [Zv 9 3,Zo 10 (.bin .add (.t 9) (.k (.int .i64 1))),Zv 3 10])))))) (.seq (.seq (.reg [Zf 18 0 1,Zl 19 false 1 18,Zo 20 (.un .not (.t 19))]) (.cond (.t 20) (.seq (.reg [Zf 21 1 1,Zl 22 false 1 21,Zo 23 (.len false (.t 22)),Zo 24 (.bin .eql (.t 23) (.k (.int .i64 1))),Zv 25 24,⟨some 26,.fld 2 (.t 1),(some (25,true))⟩,⟨some 27,.ld false 1 (.t 26),(some (25,true))⟩,⟨some 28,.bin .eql (.t 27) (.k (.str [])),(some (25,true))⟩,Zo 29 (.pick (.t 25) (.t 28) (.k (.bool false))),Zv 2 29]) .ret) .skip)) (.seq (.reg [Zf 30 1 1,Zl 31 false 1 30,Zo 32 (.len false (.t 31)),Zo 33 (.bin .leq (.t 32) (.k (.int .i64 3))),Zv 34 33,⟨some 35,.fld 2 (.t 1),(some (34,true))⟩,⟨some 36,.ld false 1 (.t 35),(some (34,true))⟩,⟨some 37,.bin .eql (.t 36) (.k (.str [])),(some (34,true))⟩,⟨some 38,.mv (.t 37),(some (34,true))⟩,⟨some 39,.fld 2 (.t 1),(some (38,false))⟩,⟨some 40,.ld false 1 (.t 39),(some (38,false))⟩,⟨some 41,.call (.k (.fn (.func 260) [] [])) [.t 40],(some (38,false))⟩,⟨some 42,.pick (.t 38) (.k (.bool true)) (.t 41),(some (34,true))⟩,Zo 43 (.pick (.t 34) (.t 42) (.k (.bool false))),Zv 2 43]) .ret))))⟩
theorem a287_ok:J0a Tryz.prog Tryz.f287=some a287:=by kernel_rfl
def a223:AFn:= ⟨23,[.t 6],(.seq (.reg [Zo 3 (.boxv (.t 0)),Zo 6 (.mv (.k (.bool false)))]) (.seq (.reg [Zl 7 true 3 3,Zc 8 287 [.t 7],Zv 9 8,⟨some 10,.fld 0 (.t 3),(some (9,true))⟩,⟨some 11,.ld false 1 (.t 10),(some (9,true))⟩,⟨some 12,.mv (.t 1),(some (9,true))⟩,⟨some 13,.beq false (.t 11) (.t 12),(some (9,true))⟩,Zo 14 (.pick (.t 9) (.t 13) (.k (.bool false))),Zv 15 14,⟨some 16,.ld true 3 (.t 3),(some (15,true))⟩,⟨some 17,.call (.k (.fn (.func 288) [] [])) [.t 16],(some (15,true))⟩,⟨some 18,.mv (.t 2),(some (15,true))⟩,⟨some 19,.call (.k (.fn (.func 137) [] [])) [.t 17,.t 18],(some (15,true))⟩,⟨some 20,.len false (.t 19),(some (15,true))⟩,⟨some 21,.bin .eql (.t 20) (.k (.int .i64 0)),(some (15,true))⟩,Zo 22 (.pick (.t 15) (.t 21) (.k (.bool false))),Zv 6 22]) .ret))⟩
theorem a223_ok:J0a Tryz.prog Tryz.f223=some a223:=by kernel_rfl
theorem K12 (s:DSum):Holds Tryz.prog 298 [.agg (J1g s)] (fun r=>r = .bool (!J8o s)):=by
 refine J02 Tryz.func298 a298_ok rfl (by simp [a298]) ?_
 simp [a298,J1g]
 first|refine J00 (J7c s) (by first|simp [J1g];done|rfl) ?_|refine J01 (J7c s) (by first|simp [J1g];done|rfl) ?_
 rintro r rfl
 simp
theorem J4z (x:DArg):Holds Tryz.prog 242 [.agg (J0x x)] (fun r=>r = .bool (Jac x)):=by
 refine J02 Tryz.func242 a242_ok rfl (by simp [a242]) ?_
 simp [a242,J0x]
 refine J1e (p:=fun s => !J8o s) (rowOf:=J1g) (eltOf:=fun s => .agg (J1g s)) Tryz.func297 a297_ok rfl Tryz.func323 a323_ok rfl (fun x=>by simp) x.Heads
  (fun s _=>J4n (K12 s) (by simp) rfl) ?_
 rw [J88]
 unfold Jac
 cases h1:x.Heads.all J8o
 ·simp
 simp
 cases h2:x.Lst
 ·simp
  intro _
  by_cases h3:(x.Heads.length:Int)=1
  ·have h3n:x.Heads.length=1:=by omega
   simp [h3,h3n]
  ·have h3n:¬x.Heads.length=1:=by omega
   simp [h3,h3n]
 ·simp
  intro _
  by_cases h3:(x.Heads.length:Int)≤3
  ·have h3n:x.Heads.length≤3:=by omega
   simp [h3,h3n,Int.not_lt.2 h3]
   by_cases h4:x.Base=[]
   ·simp [h4]
   simp [h4]
   first|refine J00 (J1w x.Base) (by first|simp;done|rfl) ?_|refine J01 (J1w x.Base) (by first|simp;done|rfl) ?_
   rintro r rfl
   simp [h4]
  ·have h3n:¬x.Heads.length≤3:=by omega
   simp [h3,h3n]
theorem Jbf (x:DArg):Holds Tryz.prog 287 [.agg (J0x x)] (fun r=>r = .bool (Jac x)):=by
 refine J1k Tryz.func287 rfl rfl fun hl => ?_
 simp [J0x] at hl
 refine J02 Tryz.func287 a287_ok rfl (by simp [a287]) ?_
 simp [a287,J0x]
 unfold Jac
 generalize hB:x.Heads.all J8o=B
 refine J4m [1] 3 x.Heads.length (fun i _=>(x.Heads.drop i).all J8o=B) hl.1 (by simp) (by simpa using hB) ?_ ?_
 ·rintro i st h R hi hg hk s3 hw hJ hh hR hret _
  simp at hk
  rw [List.drop_eq_getElem_cons hi,List.all_cons] at hJ
  have e0:=hh 0
  simp at e0
  simp [hk,s3,hi,hg,e0]
  intro _
  first|refine J00 (J6a (x.Heads[i]'hi)) (by first|simp;done|rfl) ?_|refine J01 (J6a (x.Heads[i]'hi)) (by first|simp;done|rfl) ?_
  rintro r rfl
  cases hc:J8o x.Heads[i]
  ·rw [hc,Bool.false_and] at hJ
   subst hJ
   simp
   refine hret _ _ _ ?_
   simp
  ·rw [hc,Bool.true_and] at hJ
   simp [hk,s3,hw]
   exact hR _ (by simp [hk]) (by simp) hJ
 ·rintro st h R hk s3 hJ hh _ hX
  simp at hk
  rw [List.drop_eq_nil_of_le (by omega)] at hJ
  have e0:=hh 0
  simp at e0
  simp [hk,s3,e0]
  intro _
  refine hX _ _ ?_
  simp at hJ
  subst hJ
  simp [hk]
  cases h2:x.Lst
  ·simp [hk]
   intro _
   by_cases h3:(x.Heads.length:Int)=1
   ·have h3n:x.Heads.length=1:=by omega
    simp [h3,h3n,hk]
   ·have h3n:¬x.Heads.length=1:=by omega
    simp [h3,h3n]
  ·simp [hk]
   intro _
   by_cases h3:(x.Heads.length:Int)≤3
   ·have h3n:x.Heads.length≤3:=by omega
    simp [h3,h3n,Int.not_lt.2 h3,hk]
    by_cases h4:x.Base=[]
    ·simp [h4]
    simp [h4,hk]
    first|refine J00 (J18 x.Base) (by first|simp;done|rfl) ?_|refine J01 (J18 x.Base) (by first|simp;done|rfl) ?_
    rintro r rfl
    simp [h4]
   ·have h3n:¬x.Heads.length≤3:=by omega
    simp [h3,h3n]
theorem J5w (x:DArg) (b:Bool) (scope:List Str) (hw:Jae x≤1048576):Holds Tryz.prog 223 [.agg (J0x x),.bool b,.sl 1 (J0d scope)] (fun r=>r = .bool (J5t x b scope)):=by
 refine J02 Tryz.func223 a223_ok rfl (by simp [a223]) ?_
 simp [a223,J0x]
 first|refine J00 (Jbf x) (by first|simp [J0x];done|rfl) ?_|refine J01 (Jbf x) (by first|simp [J0x];done|rfl) ?_
 rintro r rfl
 unfold J5t
 cases h1:Jac x
 ·simp
 simp
 by_cases hb:x.Lst=b
 case neg=>simp [hb]
 simp [hb]
 subst hb
 first|refine J00 (Jfo x hw) (by first|simp [J0x];done|rfl) ?_|refine J01 (Jfo x hw) (by first|simp [J0x];done|rfl) ?_
 rintro r rfl
 simp
 have hl:(J4r (J6x x)).length≤1048576:=Nat.le_trans (Jlm _) (Jen x hw)
 first|refine J00 (Jf8 (J4r (J6x x)) scope hl) (by first|simp;done|rfl) ?_|refine J01 (Jf8 (J4r (J6x x)) scope hl) (by first|simp;done|rfl) ?_
 rintro r rfl
 simp
 intro _
 rw [←Jhl]
 rw [Bool.eq_iff_iff]
 simp
end Go.Proofs.YtoclolkigjbcgaaGreat
