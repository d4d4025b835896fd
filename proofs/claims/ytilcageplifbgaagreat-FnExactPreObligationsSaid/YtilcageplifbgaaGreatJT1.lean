/- The types of the program, as data: read form (A), own form (U), weight (w). -/
import Derived.Test.YtilcageplifbgaaGreatJRD
namespace Go.Proofs.YtilcageplifbgaaGreat
set_option linter.all false
open Go Go.RowKit Go.Proofs
structure DLin where
 Const:Int
 Coeffs:List Int
deriving DecidableEq
def rALin (x:DLin):List AV:=[i64 x.Const,.sl 1 (intsR x.Coeffs)]
def rULin (x:DLin):List AV:=[i64 x.Const,.us 1 (intsR x.Coeffs)]
@[simp] theorem drl_ULin (x:DLin):drl (rULin x)=rALin x:=by simp [rULin,rALin]
@[simp] theorem drrm_ULin (l:List (DLin)):drr (l.map rULin)=l.map rALin:=by rw [drr_eq,List.map_map]; exact List.map_congr_left fun x _=>drl_ULin x
@[simp] theorem clean_ULin (x:DLin):cleanl (rULin x)=true:=by simp [rULin]
@[simp] theorem cleanm_ULin (l:List (DLin)):cleanr (l.map rULin)=true:=by rw [cleanr_iff]; simp
@[simp] theorem cell_ALin (x:DLin):(rALin x).all isCell=true:=by simp [rALin]
@[simp] theorem len_ULin (x:DLin):(rULin x).length=2:=by simp [rULin]
@[simp] theorem len_ALin (x:DLin):(rALin x).length=2:=by simp [rALin]
@[simp] theorem bw_ALin (x:DLin) (h:Heap):bwl (rALin x) h=some (rALin x):=by simp [rALin]
@[simp] theorem gALin0 (x:DLin):(rALin x)[0]? = some (i64 x.Const):=rfl
@[simp] theorem eALin0 (x:DLin) (h:0<(rALin x).length):(rALin x)[0]=i64 x.Const:=rfl
@[simp] theorem gALin1 (x:DLin):(rALin x)[1]? = some (.sl 1 (intsR x.Coeffs)):=rfl
@[simp] theorem eALin1 (x:DLin) (h:1<(rALin x).length):(rALin x)[1] = .sl 1 (intsR x.Coeffs):=rfl
@[simp] theorem tALin (x:DLin):List.take 2 (rALin x)=rALin x:=rfl
@[simp] theorem gULin0 (x:DLin):(rULin x)[0]? = some (i64 x.Const):=rfl
@[simp] theorem eULin0 (x:DLin) (h:0<(rULin x).length):(rULin x)[0]=i64 x.Const:=rfl
@[simp] theorem gULin1 (x:DLin):(rULin x)[1]? = some (.us 1 (intsR x.Coeffs)):=rfl
@[simp] theorem eULin1 (x:DLin) (h:1<(rULin x).length):(rULin x)[1] = .us 1 (intsR x.Coeffs):=rfl
@[simp] theorem tULin (x:DLin):List.take 2 (rULin x)=rULin x:=rfl
def wIntS (l:List Int):Nat:=l.length
def wLin (x:DLin):Nat:=wIntS x.Coeffs
def wLinS (l:List DLin):Nat:=wL wLin l
def rALinS (l:List DLin):List AV:=[.sl 2 (l.map rALin)]
def rULinS (l:List DLin):List AV:=[.us 2 (l.map rULin)]
@[simp] theorem drl_ULinS (x:List DLin):drl (rULinS x)=rALinS x:=by simp [rULinS,rALinS]
@[simp] theorem drrm_ULinS (l:List (List DLin)):drr (l.map rULinS)=l.map rALinS:=by rw [drr_eq,List.map_map]; exact List.map_congr_left fun x _=>drl_ULinS x
@[simp] theorem clean_ULinS (x:List DLin):cleanl (rULinS x)=true:=by simp [rULinS]
@[simp] theorem cleanm_ULinS (l:List (List DLin)):cleanr (l.map rULinS)=true:=by rw [cleanr_iff]; simp
structure DSystem where
 N:Int
 Rows:List DLin
deriving DecidableEq
def rASystem (x:DSystem):List AV:=[i64 x.N,.sl 2 (x.Rows.map rALin)]
def rUSystem (x:DSystem):List AV:=[i64 x.N,.us 2 (x.Rows.map rULin)]
@[simp] theorem bw_ASystem (x:DSystem) (h:Heap):bwl (rASystem x) h=some (rASystem x):=by simp [rASystem]
@[simp] theorem gASystem0 (x:DSystem):(rASystem x)[0]? = some (i64 x.N):=rfl
@[simp] theorem eASystem0 (x:DSystem) (h:0<(rASystem x).length):(rASystem x)[0]=i64 x.N:=rfl
@[simp] theorem gASystem1 (x:DSystem):(rASystem x)[1]? = some (.sl 2 (x.Rows.map rALin)):=rfl
@[simp] theorem eASystem1 (x:DSystem) (h:1<(rASystem x).length):(rASystem x)[1] = .sl 2 (x.Rows.map rALin):=rfl
@[simp] theorem tASystem (x:DSystem):List.take 2 (rASystem x)=rASystem x:=rfl
@[simp] theorem gUSystem0 (x:DSystem):(rUSystem x)[0]? = some (i64 x.N):=rfl
@[simp] theorem eUSystem0 (x:DSystem) (h:0<(rUSystem x).length):(rUSystem x)[0]=i64 x.N:=rfl
@[simp] theorem gUSystem1 (x:DSystem):(rUSystem x)[1]? = some (.us 2 (x.Rows.map rULin)):=rfl
@[simp] theorem eUSystem1 (x:DSystem) (h:1<(rUSystem x).length):(rUSystem x)[1] = .us 2 (x.Rows.map rULin):=rfl
@[simp] theorem tUSystem (x:DSystem):List.take 2 (rUSystem x)=rUSystem x:=rfl
structure DTerm where
 Coeff:Int
 Name:Str
deriving DecidableEq
def rATerm (x:DTerm):List AV:=[i64 x.Coeff,.str x.Name]
def rUTerm (x:DTerm):List AV:=[i64 x.Coeff,.str x.Name]
@[simp] theorem drl_UTerm (x:DTerm):drl (rUTerm x)=rATerm x:=by simp [rUTerm,rATerm]
@[simp] theorem drrm_UTerm (l:List (DTerm)):drr (l.map rUTerm)=l.map rATerm:=by rw [drr_eq,List.map_map]; exact List.map_congr_left fun x _=>drl_UTerm x
@[simp] theorem clean_UTerm (x:DTerm):cleanl (rUTerm x)=true:=by simp [rUTerm]
@[simp] theorem cleanm_UTerm (l:List (DTerm)):cleanr (l.map rUTerm)=true:=by rw [cleanr_iff]; simp
@[simp] theorem gATerm0 (x:DTerm):(rATerm x)[0]? = some (i64 x.Coeff):=rfl
@[simp] theorem eATerm0 (x:DTerm) (h:0<(rATerm x).length):(rATerm x)[0]=i64 x.Coeff:=rfl
@[simp] theorem gATerm1 (x:DTerm):(rATerm x)[1]? = some (.str x.Name):=rfl
@[simp] theorem eATerm1 (x:DTerm) (h:1<(rATerm x).length):(rATerm x)[1] = .str x.Name:=rfl
@[simp] theorem tATerm (x:DTerm):List.take 2 (rATerm x)=rATerm x:=rfl
@[simp] theorem gUTerm0 (x:DTerm):(rUTerm x)[0]? = some (i64 x.Coeff):=rfl
@[simp] theorem eUTerm0 (x:DTerm) (h:0<(rUTerm x).length):(rUTerm x)[0]=i64 x.Coeff:=rfl
@[simp] theorem gUTerm1 (x:DTerm):(rUTerm x)[1]? = some (.str x.Name):=rfl
@[simp] theorem eUTerm1 (x:DTerm) (h:1<(rUTerm x).length):(rUTerm x)[1] = .str x.Name:=rfl
@[simp] theorem tUTerm (x:DTerm):List.take 2 (rUTerm x)=rUTerm x:=rfl
def wTerm (x:DTerm):Nat:=x.Name.length
def wTermS (l:List DTerm):Nat:=wL wTerm l
structure DSum where
 Const:Int
 Terms:List DTerm
deriving DecidableEq
def rASum (x:DSum):List AV:=[i64 x.Const,.sl 2 (x.Terms.map rATerm)]
def rUSum (x:DSum):List AV:=[i64 x.Const,.us 2 (x.Terms.map rUTerm)]
@[simp] theorem drl_USum (x:DSum):drl (rUSum x)=rASum x:=by simp [rUSum,rASum]
@[simp] theorem drrm_USum (l:List (DSum)):drr (l.map rUSum)=l.map rASum:=by rw [drr_eq,List.map_map]; exact List.map_congr_left fun x _=>drl_USum x
@[simp] theorem clean_USum (x:DSum):cleanl (rUSum x)=true:=by simp [rUSum]
@[simp] theorem cleanm_USum (l:List (DSum)):cleanr (l.map rUSum)=true:=by rw [cleanr_iff]; simp
@[simp] theorem len_ASum (x:DSum):(rASum x).length=2:=by simp [rASum]
@[simp] theorem bw_ASum (x:DSum) (h:Heap):bwl (rASum x) h=some (rASum x):=by simp [rASum]
@[simp] theorem gASum0 (x:DSum):(rASum x)[0]? = some (i64 x.Const):=rfl
@[simp] theorem eASum0 (x:DSum) (h:0<(rASum x).length):(rASum x)[0]=i64 x.Const:=rfl
@[simp] theorem gASum1 (x:DSum):(rASum x)[1]? = some (.sl 2 (x.Terms.map rATerm)):=rfl
@[simp] theorem eASum1 (x:DSum) (h:1<(rASum x).length):(rASum x)[1] = .sl 2 (x.Terms.map rATerm):=rfl
@[simp] theorem tASum (x:DSum):List.take 2 (rASum x)=rASum x:=rfl
@[simp] theorem gUSum0 (x:DSum):(rUSum x)[0]? = some (i64 x.Const):=rfl
@[simp] theorem eUSum0 (x:DSum) (h:0<(rUSum x).length):(rUSum x)[0]=i64 x.Const:=rfl
@[simp] theorem gUSum1 (x:DSum):(rUSum x)[1]? = some (.us 2 (x.Terms.map rUTerm)):=rfl
@[simp] theorem eUSum1 (x:DSum) (h:1<(rUSum x).length):(rUSum x)[1] = .us 2 (x.Terms.map rUTerm):=rfl
@[simp] theorem tUSum (x:DSum):List.take 2 (rUSum x)=rUSum x:=rfl
def wSum (x:DSum):Nat:=wTermS x.Terms
def wSumS (l:List DSum):Nat:=wL wSum l
structure DArg where
 Lst:Bool
 Heads:List DSum
 Base:Str
deriving DecidableEq
def rAArg (x:DArg):List AV:=[.bool x.Lst,.sl 2 (x.Heads.map rASum),.str x.Base]
def rUArg (x:DArg):List AV:=[.bool x.Lst,.us 2 (x.Heads.map rUSum),.str x.Base]
@[simp] theorem drl_UArg (x:DArg):drl (rUArg x)=rAArg x:=by simp [rUArg,rAArg]
@[simp] theorem drrm_UArg (l:List (DArg)):drr (l.map rUArg)=l.map rAArg:=by rw [drr_eq,List.map_map]; exact List.map_congr_left fun x _=>drl_UArg x
@[simp] theorem clean_UArg (x:DArg):cleanl (rUArg x)=true:=by simp [rUArg]
@[simp] theorem cleanm_UArg (l:List (DArg)):cleanr (l.map rUArg)=true:=by rw [cleanr_iff]; simp
@[simp] theorem len_AArg (x:DArg):(rAArg x).length=3:=by simp [rAArg]
@[simp] theorem bw_AArg (x:DArg) (h:Heap):bwl (rAArg x) h=some (rAArg x):=by simp [rAArg]
@[simp] theorem gAArg0 (x:DArg):(rAArg x)[0]? = some (.bool x.Lst):=rfl
@[simp] theorem eAArg0 (x:DArg) (h:0<(rAArg x).length):(rAArg x)[0] = .bool x.Lst:=rfl
@[simp] theorem gAArg1 (x:DArg):(rAArg x)[1]? = some (.sl 2 (x.Heads.map rASum)):=rfl
@[simp] theorem eAArg1 (x:DArg) (h:1<(rAArg x).length):(rAArg x)[1] = .sl 2 (x.Heads.map rASum):=rfl
@[simp] theorem gAArg2 (x:DArg):(rAArg x)[2]? = some (.str x.Base):=rfl
@[simp] theorem eAArg2 (x:DArg) (h:2<(rAArg x).length):(rAArg x)[2] = .str x.Base:=rfl
@[simp] theorem tAArg (x:DArg):List.take 3 (rAArg x)=rAArg x:=rfl
@[simp] theorem gUArg0 (x:DArg):(rUArg x)[0]? = some (.bool x.Lst):=rfl
@[simp] theorem eUArg0 (x:DArg) (h:0<(rUArg x).length):(rUArg x)[0] = .bool x.Lst:=rfl
@[simp] theorem gUArg1 (x:DArg):(rUArg x)[1]? = some (.us 2 (x.Heads.map rUSum)):=rfl
@[simp] theorem eUArg1 (x:DArg) (h:1<(rUArg x).length):(rUArg x)[1] = .us 2 (x.Heads.map rUSum):=rfl
@[simp] theorem gUArg2 (x:DArg):(rUArg x)[2]? = some (.str x.Base):=rfl
@[simp] theorem eUArg2 (x:DArg) (h:2<(rUArg x).length):(rUArg x)[2] = .str x.Base:=rfl
@[simp] theorem tUArg (x:DArg):List.take 3 (rUArg x)=rUArg x:=rfl
def wArg (x:DArg):Nat:=wSumS x.Heads+x.Base.length
def wArgS (l:List DArg):Nat:=wL wArg l
structure DFunction where
 Name:Str
 Params:List Str
 ListResult:Bool
 Pre:List DLin
deriving DecidableEq
def rAFunction (x:DFunction):List AV:=[.str x.Name,.sl 1 (strsR x.Params),.bool x.ListResult,.sl 2 (x.Pre.map rALin)]
def rUFunction (x:DFunction):List AV:=[.str x.Name,.us 1 (strsR x.Params),.bool x.ListResult,.us 2 (x.Pre.map rULin)]
@[simp] theorem drl_UFunction (x:DFunction):drl (rUFunction x)=rAFunction x:=by simp [rUFunction,rAFunction]
@[simp] theorem drrm_UFunction (l:List (DFunction)):drr (l.map rUFunction)=l.map rAFunction:=by rw [drr_eq,List.map_map]; exact List.map_congr_left fun x _=>drl_UFunction x
@[simp] theorem clean_UFunction (x:DFunction):cleanl (rUFunction x)=true:=by simp [rUFunction]
@[simp] theorem cleanm_UFunction (l:List (DFunction)):cleanr (l.map rUFunction)=true:=by rw [cleanr_iff]; simp
@[simp] theorem cell_AFunction (x:DFunction):(rAFunction x).all isCell=true:=by simp [rAFunction]
@[simp] theorem len_AFunction (x:DFunction):(rAFunction x).length=4:=by simp [rAFunction]
@[simp] theorem bw_AFunction (x:DFunction) (h:Heap):bwl (rAFunction x) h=some (rAFunction x):=by simp [rAFunction]
@[simp] theorem gAFunction0 (x:DFunction):(rAFunction x)[0]? = some (.str x.Name):=rfl
@[simp] theorem eAFunction0 (x:DFunction) (h:0<(rAFunction x).length):(rAFunction x)[0] = .str x.Name:=rfl
@[simp] theorem gAFunction1 (x:DFunction):(rAFunction x)[1]? = some (.sl 1 (strsR x.Params)):=rfl
@[simp] theorem eAFunction1 (x:DFunction) (h:1<(rAFunction x).length):(rAFunction x)[1] = .sl 1 (strsR x.Params):=rfl
@[simp] theorem gAFunction2 (x:DFunction):(rAFunction x)[2]? = some (.bool x.ListResult):=rfl
@[simp] theorem eAFunction2 (x:DFunction) (h:2<(rAFunction x).length):(rAFunction x)[2] = .bool x.ListResult:=rfl
@[simp] theorem gAFunction3 (x:DFunction):(rAFunction x)[3]? = some (.sl 2 (x.Pre.map rALin)):=rfl
@[simp] theorem eAFunction3 (x:DFunction) (h:3<(rAFunction x).length):(rAFunction x)[3] = .sl 2 (x.Pre.map rALin):=rfl
@[simp] theorem tAFunction (x:DFunction):List.take 4 (rAFunction x)=rAFunction x:=rfl
@[simp] theorem gUFunction0 (x:DFunction):(rUFunction x)[0]? = some (.str x.Name):=rfl
@[simp] theorem eUFunction0 (x:DFunction) (h:0<(rUFunction x).length):(rUFunction x)[0] = .str x.Name:=rfl
@[simp] theorem gUFunction1 (x:DFunction):(rUFunction x)[1]? = some (.us 1 (strsR x.Params)):=rfl
@[simp] theorem eUFunction1 (x:DFunction) (h:1<(rUFunction x).length):(rUFunction x)[1] = .us 1 (strsR x.Params):=rfl
@[simp] theorem gUFunction2 (x:DFunction):(rUFunction x)[2]? = some (.bool x.ListResult):=rfl
@[simp] theorem eUFunction2 (x:DFunction) (h:2<(rUFunction x).length):(rUFunction x)[2] = .bool x.ListResult:=rfl
@[simp] theorem gUFunction3 (x:DFunction):(rUFunction x)[3]? = some (.us 2 (x.Pre.map rULin)):=rfl
@[simp] theorem eUFunction3 (x:DFunction) (h:3<(rUFunction x).length):(rUFunction x)[3] = .us 2 (x.Pre.map rULin):=rfl
@[simp] theorem tUFunction (x:DFunction):List.take 4 (rUFunction x)=rUFunction x:=rfl
def wStringS (l:List Str):Nat:=wL List.length l
def wFunction (x:DFunction):Nat:=x.Name.length+wStringS x.Params+wLinS x.Pre
def wFunctionS (l:List DFunction):Nat:=wL wFunction l
structure DPattern where
 Lst:Str
 Cons:Bool
 Head:Str
 Tail:Str
deriving DecidableEq
def rAPattern (x:DPattern):List AV:=[.str x.Lst,.bool x.Cons,.str x.Head,.str x.Tail]
def rUPattern (x:DPattern):List AV:=[.str x.Lst,.bool x.Cons,.str x.Head,.str x.Tail]
@[simp] theorem drl_UPattern (x:DPattern):drl (rUPattern x)=rAPattern x:=by simp [rUPattern,rAPattern]
@[simp] theorem drrm_UPattern (l:List (DPattern)):drr (l.map rUPattern)=l.map rAPattern:=by rw [drr_eq,List.map_map]; exact List.map_congr_left fun x _=>drl_UPattern x
@[simp] theorem clean_UPattern (x:DPattern):cleanl (rUPattern x)=true:=by simp [rUPattern]
@[simp] theorem cleanm_UPattern (l:List (DPattern)):cleanr (l.map rUPattern)=true:=by rw [cleanr_iff]; simp
@[simp] theorem len_APattern (x:DPattern):(rAPattern x).length=4:=by simp [rAPattern]
@[simp] theorem gAPattern0 (x:DPattern):(rAPattern x)[0]? = some (.str x.Lst):=rfl
@[simp] theorem eAPattern0 (x:DPattern) (h:0<(rAPattern x).length):(rAPattern x)[0] = .str x.Lst:=rfl
@[simp] theorem gAPattern1 (x:DPattern):(rAPattern x)[1]? = some (.bool x.Cons):=rfl
@[simp] theorem eAPattern1 (x:DPattern) (h:1<(rAPattern x).length):(rAPattern x)[1] = .bool x.Cons:=rfl
@[simp] theorem gAPattern2 (x:DPattern):(rAPattern x)[2]? = some (.str x.Head):=rfl
@[simp] theorem eAPattern2 (x:DPattern) (h:2<(rAPattern x).length):(rAPattern x)[2] = .str x.Head:=rfl
@[simp] theorem gAPattern3 (x:DPattern):(rAPattern x)[3]? = some (.str x.Tail):=rfl
@[simp] theorem eAPattern3 (x:DPattern) (h:3<(rAPattern x).length):(rAPattern x)[3] = .str x.Tail:=rfl
@[simp] theorem tAPattern (x:DPattern):List.take 4 (rAPattern x)=rAPattern x:=rfl
@[simp] theorem gUPattern0 (x:DPattern):(rUPattern x)[0]? = some (.str x.Lst):=rfl
@[simp] theorem eUPattern0 (x:DPattern) (h:0<(rUPattern x).length):(rUPattern x)[0] = .str x.Lst:=rfl
@[simp] theorem gUPattern1 (x:DPattern):(rUPattern x)[1]? = some (.bool x.Cons):=rfl
@[simp] theorem eUPattern1 (x:DPattern) (h:1<(rUPattern x).length):(rUPattern x)[1] = .bool x.Cons:=rfl
@[simp] theorem gUPattern2 (x:DPattern):(rUPattern x)[2]? = some (.str x.Head):=rfl
@[simp] theorem eUPattern2 (x:DPattern) (h:2<(rUPattern x).length):(rUPattern x)[2] = .str x.Head:=rfl
@[simp] theorem gUPattern3 (x:DPattern):(rUPattern x)[3]? = some (.str x.Tail):=rfl
@[simp] theorem eUPattern3 (x:DPattern) (h:3<(rUPattern x).length):(rUPattern x)[3] = .str x.Tail:=rfl
@[simp] theorem tUPattern (x:DPattern):List.take 4 (rUPattern x)=rUPattern x:=rfl
def wPattern (x:DPattern):Nat:=x.Lst.length+x.Head.length+x.Tail.length
def wPatternS (l:List DPattern):Nat:=wL wPattern l
structure DCall where
 Bind:Str
 Func:Str
 Args:List DArg
deriving DecidableEq
def rACall (x:DCall):List AV:=[.str x.Bind,.str x.Func,.sl 3 (x.Args.map rAArg)]
def rUCall (x:DCall):List AV:=[.str x.Bind,.str x.Func,.us 3 (x.Args.map rUArg)]
@[simp] theorem drl_UCall (x:DCall):drl (rUCall x)=rACall x:=by simp [rUCall,rACall]
@[simp] theorem drrm_UCall (l:List (DCall)):drr (l.map rUCall)=l.map rACall:=by rw [drr_eq,List.map_map]; exact List.map_congr_left fun x _=>drl_UCall x
@[simp] theorem clean_UCall (x:DCall):cleanl (rUCall x)=true:=by simp [rUCall]
@[simp] theorem cleanm_UCall (l:List (DCall)):cleanr (l.map rUCall)=true:=by rw [cleanr_iff]; simp
@[simp] theorem len_ACall (x:DCall):(rACall x).length=3:=by simp [rACall]
@[simp] theorem bw_ACall (x:DCall) (h:Heap):bwl (rACall x) h=some (rACall x):=by simp [rACall]
@[simp] theorem gACall0 (x:DCall):(rACall x)[0]? = some (.str x.Bind):=rfl
@[simp] theorem eACall0 (x:DCall) (h:0<(rACall x).length):(rACall x)[0] = .str x.Bind:=rfl
@[simp] theorem gACall1 (x:DCall):(rACall x)[1]? = some (.str x.Func):=rfl
@[simp] theorem eACall1 (x:DCall) (h:1<(rACall x).length):(rACall x)[1] = .str x.Func:=rfl
@[simp] theorem gACall2 (x:DCall):(rACall x)[2]? = some (.sl 3 (x.Args.map rAArg)):=rfl
@[simp] theorem eACall2 (x:DCall) (h:2<(rACall x).length):(rACall x)[2] = .sl 3 (x.Args.map rAArg):=rfl
@[simp] theorem tACall (x:DCall):List.take 3 (rACall x)=rACall x:=rfl
@[simp] theorem gUCall0 (x:DCall):(rUCall x)[0]? = some (.str x.Bind):=rfl
@[simp] theorem eUCall0 (x:DCall) (h:0<(rUCall x).length):(rUCall x)[0] = .str x.Bind:=rfl
@[simp] theorem gUCall1 (x:DCall):(rUCall x)[1]? = some (.str x.Func):=rfl
@[simp] theorem eUCall1 (x:DCall) (h:1<(rUCall x).length):(rUCall x)[1] = .str x.Func:=rfl
@[simp] theorem gUCall2 (x:DCall):(rUCall x)[2]? = some (.us 3 (x.Args.map rUArg)):=rfl
@[simp] theorem eUCall2 (x:DCall) (h:2<(rUCall x).length):(rUCall x)[2] = .us 3 (x.Args.map rUArg):=rfl
@[simp] theorem tUCall (x:DCall):List.take 3 (rUCall x)=rUCall x:=rfl
def wCall (x:DCall):Nat:=x.Bind.length+x.Func.length+wArgS x.Args
def wCallS (l:List DCall):Nat:=wL wCall l
structure DRule where
 Func:Str
 Patterns:List DPattern
 Guards:List DSum
 Calls:List DCall
 Result:DArg
deriving DecidableEq
def rARule (x:DRule):List AV:=[.str x.Func,.sl 4 (x.Patterns.map rAPattern),.sl 2 (x.Guards.map rASum),.sl 3 (x.Calls.map rACall),.bool x.Result.Lst,.sl 2 (x.Result.Heads.map rASum),.str x.Result.Base]
def rURule (x:DRule):List AV:=[.str x.Func,.us 4 (x.Patterns.map rUPattern),.us 2 (x.Guards.map rUSum),.us 3 (x.Calls.map rUCall),.bool x.Result.Lst,.us 2 (x.Result.Heads.map rUSum),.str x.Result.Base]
@[simp] theorem drl_URule (x:DRule):drl (rURule x)=rARule x:=by simp [rURule,rARule]
@[simp] theorem drrm_URule (l:List (DRule)):drr (l.map rURule)=l.map rARule:=by rw [drr_eq,List.map_map]; exact List.map_congr_left fun x _=>drl_URule x
@[simp] theorem clean_URule (x:DRule):cleanl (rURule x)=true:=by simp [rURule]
@[simp] theorem cleanm_URule (l:List (DRule)):cleanr (l.map rURule)=true:=by rw [cleanr_iff]; simp
@[simp] theorem cell_ARule (x:DRule):(rARule x).all isCell=true:=by simp [rARule]
@[simp] theorem len_ARule (x:DRule):(rARule x).length=7:=by simp [rARule]
@[simp] theorem bw_ARule (x:DRule) (h:Heap):bwl (rARule x) h=some (rARule x):=by simp [rARule]
@[simp] theorem gARule0 (x:DRule):(rARule x)[0]? = some (.str x.Func):=rfl
@[simp] theorem eARule0 (x:DRule) (h:0<(rARule x).length):(rARule x)[0] = .str x.Func:=rfl
@[simp] theorem gARule1 (x:DRule):(rARule x)[1]? = some (.sl 4 (x.Patterns.map rAPattern)):=rfl
@[simp] theorem eARule1 (x:DRule) (h:1<(rARule x).length):(rARule x)[1] = .sl 4 (x.Patterns.map rAPattern):=rfl
@[simp] theorem gARule2 (x:DRule):(rARule x)[2]? = some (.sl 2 (x.Guards.map rASum)):=rfl
@[simp] theorem eARule2 (x:DRule) (h:2<(rARule x).length):(rARule x)[2] = .sl 2 (x.Guards.map rASum):=rfl
@[simp] theorem gARule3 (x:DRule):(rARule x)[3]? = some (.sl 3 (x.Calls.map rACall)):=rfl
@[simp] theorem eARule3 (x:DRule) (h:3<(rARule x).length):(rARule x)[3] = .sl 3 (x.Calls.map rACall):=rfl
@[simp] theorem gARule4 (x:DRule):(rARule x)[4]? = some (.bool x.Result.Lst):=rfl
@[simp] theorem eARule4 (x:DRule) (h:4<(rARule x).length):(rARule x)[4] = .bool x.Result.Lst:=rfl
@[simp] theorem gARule5 (x:DRule):(rARule x)[5]? = some (.sl 2 (x.Result.Heads.map rASum)):=rfl
@[simp] theorem eARule5 (x:DRule) (h:5<(rARule x).length):(rARule x)[5] = .sl 2 (x.Result.Heads.map rASum):=rfl
@[simp] theorem gARule6 (x:DRule):(rARule x)[6]? = some (.str x.Result.Base):=rfl
@[simp] theorem eARule6 (x:DRule) (h:6<(rARule x).length):(rARule x)[6] = .str x.Result.Base:=rfl
@[simp] theorem tARule (x:DRule):List.take 7 (rARule x)=rARule x:=rfl
@[simp] theorem tARule_Result (x:DRule):List.take 3 (List.drop 4 (rARule x))=rAArg x.Result:=rfl
@[simp] theorem gURule0 (x:DRule):(rURule x)[0]? = some (.str x.Func):=rfl
@[simp] theorem eURule0 (x:DRule) (h:0<(rURule x).length):(rURule x)[0] = .str x.Func:=rfl
@[simp] theorem gURule1 (x:DRule):(rURule x)[1]? = some (.us 4 (x.Patterns.map rUPattern)):=rfl
@[simp] theorem eURule1 (x:DRule) (h:1<(rURule x).length):(rURule x)[1] = .us 4 (x.Patterns.map rUPattern):=rfl
@[simp] theorem gURule2 (x:DRule):(rURule x)[2]? = some (.us 2 (x.Guards.map rUSum)):=rfl
@[simp] theorem eURule2 (x:DRule) (h:2<(rURule x).length):(rURule x)[2] = .us 2 (x.Guards.map rUSum):=rfl
@[simp] theorem gURule3 (x:DRule):(rURule x)[3]? = some (.us 3 (x.Calls.map rUCall)):=rfl
@[simp] theorem eURule3 (x:DRule) (h:3<(rURule x).length):(rURule x)[3] = .us 3 (x.Calls.map rUCall):=rfl
@[simp] theorem gURule4 (x:DRule):(rURule x)[4]? = some (.bool x.Result.Lst):=rfl
@[simp] theorem eURule4 (x:DRule) (h:4<(rURule x).length):(rURule x)[4] = .bool x.Result.Lst:=rfl
@[simp] theorem gURule5 (x:DRule):(rURule x)[5]? = some (.us 2 (x.Result.Heads.map rUSum)):=rfl
@[simp] theorem eURule5 (x:DRule) (h:5<(rURule x).length):(rURule x)[5] = .us 2 (x.Result.Heads.map rUSum):=rfl
@[simp] theorem gURule6 (x:DRule):(rURule x)[6]? = some (.str x.Result.Base):=rfl
@[simp] theorem eURule6 (x:DRule) (h:6<(rURule x).length):(rURule x)[6] = .str x.Result.Base:=rfl
@[simp] theorem tURule (x:DRule):List.take 7 (rURule x)=rURule x:=rfl
@[simp] theorem tURule_Result (x:DRule):List.take 3 (List.drop 4 (rURule x))=rUArg x.Result:=rfl
def wRule (x:DRule):Nat:=x.Func.length+wPatternS x.Patterns+wSumS x.Guards+wCallS x.Calls+wArg x.Result
def wRuleS (l:List DRule):Nat:=wL wRule l
structure DProgram where
 Functions:List DFunction
 Rules:List DRule
deriving DecidableEq
def rAProgram (x:DProgram):List AV:=[.sl 4 (x.Functions.map rAFunction),.sl 7 (x.Rules.map rARule)]
def rUProgram (x:DProgram):List AV:=[.us 4 (x.Functions.map rUFunction),.us 7 (x.Rules.map rURule)]
@[simp] theorem drl_UProgram (x:DProgram):drl (rUProgram x)=rAProgram x:=by simp [rUProgram,rAProgram]
@[simp] theorem cell_UProgram (x:DProgram):(rUProgram x).all isCell=true:=by simp [rUProgram]
@[simp] theorem cell_AProgram (x:DProgram):(rAProgram x).all isCell=true:=by simp [rAProgram]
@[simp] theorem len_UProgram (x:DProgram):(rUProgram x).length=2:=by simp [rUProgram]
@[simp] theorem len_AProgram (x:DProgram):(rAProgram x).length=2:=by simp [rAProgram]
@[simp] theorem bw_AProgram (x:DProgram) (h:Heap):bwl (rAProgram x) h=some (rAProgram x):=by simp [rAProgram]
@[simp] theorem gAProgram0 (x:DProgram):(rAProgram x)[0]? = some (.sl 4 (x.Functions.map rAFunction)):=rfl
@[simp] theorem eAProgram0 (x:DProgram) (h:0<(rAProgram x).length):(rAProgram x)[0] = .sl 4 (x.Functions.map rAFunction):=rfl
@[simp] theorem gAProgram1 (x:DProgram):(rAProgram x)[1]? = some (.sl 7 (x.Rules.map rARule)):=rfl
@[simp] theorem eAProgram1 (x:DProgram) (h:1<(rAProgram x).length):(rAProgram x)[1] = .sl 7 (x.Rules.map rARule):=rfl
@[simp] theorem tAProgram (x:DProgram):List.take 2 (rAProgram x)=rAProgram x:=rfl
@[simp] theorem gUProgram0 (x:DProgram):(rUProgram x)[0]? = some (.us 4 (x.Functions.map rUFunction)):=rfl
@[simp] theorem eUProgram0 (x:DProgram) (h:0<(rUProgram x).length):(rUProgram x)[0] = .us 4 (x.Functions.map rUFunction):=rfl
@[simp] theorem gUProgram1 (x:DProgram):(rUProgram x)[1]? = some (.us 7 (x.Rules.map rURule)):=rfl
@[simp] theorem eUProgram1 (x:DProgram) (h:1<(rUProgram x).length):(rUProgram x)[1] = .us 7 (x.Rules.map rURule):=rfl
@[simp] theorem tUProgram (x:DProgram):List.take 2 (rUProgram x)=rUProgram x:=rfl
def wProgram (x:DProgram):Nat:=wFunctionS x.Functions+wRuleS x.Rules
structure DModel where
 System:DSystem
 Params:List DLin
 Args:List (List DLin)
 Result:DLin
deriving DecidableEq
def rAModel (x:DModel):List AV:=[i64 x.System.N,.sl 2 (x.System.Rows.map rALin),.sl 2 (x.Params.map rALin),.sl 1 (x.Args.map rALinS),i64 x.Result.Const,.sl 1 (intsR x.Result.Coeffs)]
def rUModel (x:DModel):List AV:=[i64 x.System.N,.us 2 (x.System.Rows.map rULin),.us 2 (x.Params.map rULin),.us 1 (x.Args.map rULinS),i64 x.Result.Const,.us 1 (intsR x.Result.Coeffs)]
@[simp] theorem drl_UModel (x:DModel):drl (rUModel x)=rAModel x:=by simp [rUModel,rAModel]
@[simp] theorem cell_AModel (x:DModel):(rAModel x).all isCell=true:=by simp [rAModel]
@[simp] theorem len_AModel (x:DModel):(rAModel x).length=6:=by simp [rAModel]
@[simp] theorem bw_AModel (x:DModel) (h:Heap):bwl (rAModel x) h=some (rAModel x):=by simp [rAModel]
@[simp] theorem gAModel0 (x:DModel):(rAModel x)[0]? = some (i64 x.System.N):=rfl
@[simp] theorem eAModel0 (x:DModel) (h:0<(rAModel x).length):(rAModel x)[0]=i64 x.System.N:=rfl
@[simp] theorem gAModel1 (x:DModel):(rAModel x)[1]? = some (.sl 2 (x.System.Rows.map rALin)):=rfl
@[simp] theorem eAModel1 (x:DModel) (h:1<(rAModel x).length):(rAModel x)[1] = .sl 2 (x.System.Rows.map rALin):=rfl
@[simp] theorem gAModel2 (x:DModel):(rAModel x)[2]? = some (.sl 2 (x.Params.map rALin)):=rfl
@[simp] theorem eAModel2 (x:DModel) (h:2<(rAModel x).length):(rAModel x)[2] = .sl 2 (x.Params.map rALin):=rfl
@[simp] theorem gAModel3 (x:DModel):(rAModel x)[3]? = some (.sl 1 (x.Args.map rALinS)):=rfl
@[simp] theorem eAModel3 (x:DModel) (h:3<(rAModel x).length):(rAModel x)[3] = .sl 1 (x.Args.map rALinS):=rfl
@[simp] theorem gAModel4 (x:DModel):(rAModel x)[4]? = some (i64 x.Result.Const):=rfl
@[simp] theorem eAModel4 (x:DModel) (h:4<(rAModel x).length):(rAModel x)[4]=i64 x.Result.Const:=rfl
@[simp] theorem gAModel5 (x:DModel):(rAModel x)[5]? = some (.sl 1 (intsR x.Result.Coeffs)):=rfl
@[simp] theorem eAModel5 (x:DModel) (h:5<(rAModel x).length):(rAModel x)[5] = .sl 1 (intsR x.Result.Coeffs):=rfl
@[simp] theorem tAModel (x:DModel):List.take 6 (rAModel x)=rAModel x:=rfl
@[simp] theorem tAModel_System (x:DModel):List.take 2 (rAModel x)=rASystem x.System:=rfl
@[simp] theorem tAModel_Result (x:DModel):List.take 2 (List.drop 4 (rAModel x))=rALin x.Result:=rfl
@[simp] theorem gUModel0 (x:DModel):(rUModel x)[0]? = some (i64 x.System.N):=rfl
@[simp] theorem eUModel0 (x:DModel) (h:0<(rUModel x).length):(rUModel x)[0]=i64 x.System.N:=rfl
@[simp] theorem gUModel1 (x:DModel):(rUModel x)[1]? = some (.us 2 (x.System.Rows.map rULin)):=rfl
@[simp] theorem eUModel1 (x:DModel) (h:1<(rUModel x).length):(rUModel x)[1] = .us 2 (x.System.Rows.map rULin):=rfl
@[simp] theorem gUModel2 (x:DModel):(rUModel x)[2]? = some (.us 2 (x.Params.map rULin)):=rfl
@[simp] theorem eUModel2 (x:DModel) (h:2<(rUModel x).length):(rUModel x)[2] = .us 2 (x.Params.map rULin):=rfl
@[simp] theorem gUModel3 (x:DModel):(rUModel x)[3]? = some (.us 1 (x.Args.map rULinS)):=rfl
@[simp] theorem eUModel3 (x:DModel) (h:3<(rUModel x).length):(rUModel x)[3] = .us 1 (x.Args.map rULinS):=rfl
@[simp] theorem gUModel4 (x:DModel):(rUModel x)[4]? = some (i64 x.Result.Const):=rfl
@[simp] theorem eUModel4 (x:DModel) (h:4<(rUModel x).length):(rUModel x)[4]=i64 x.Result.Const:=rfl
@[simp] theorem gUModel5 (x:DModel):(rUModel x)[5]? = some (.us 1 (intsR x.Result.Coeffs)):=rfl
@[simp] theorem eUModel5 (x:DModel) (h:5<(rUModel x).length):(rUModel x)[5] = .us 1 (intsR x.Result.Coeffs):=rfl
@[simp] theorem tUModel (x:DModel):List.take 6 (rUModel x)=rUModel x:=rfl
@[simp] theorem tUModel_System (x:DModel):List.take 2 (rUModel x)=rUSystem x.System:=rfl
@[simp] theorem tUModel_Result (x:DModel):List.take 2 (List.drop 4 (rUModel x))=rULin x.Result:=rfl
structure DObligation where
 System:DSystem
 Target:DLin
deriving DecidableEq
def rAObligation (x:DObligation):List AV:=[i64 x.System.N,.sl 2 (x.System.Rows.map rALin),i64 x.Target.Const,.sl 1 (intsR x.Target.Coeffs)]
def rUObligation (x:DObligation):List AV:=[i64 x.System.N,.us 2 (x.System.Rows.map rULin),i64 x.Target.Const,.us 1 (intsR x.Target.Coeffs)]
@[simp] theorem drl_UObligation (x:DObligation):drl (rUObligation x)=rAObligation x:=by simp [rUObligation,rAObligation]
@[simp] theorem drrm_UObligation (l:List (DObligation)):drr (l.map rUObligation)=l.map rAObligation:=by rw [drr_eq,List.map_map]; exact List.map_congr_left fun x _=>drl_UObligation x
@[simp] theorem clean_UObligation (x:DObligation):cleanl (rUObligation x)=true:=by simp [rUObligation]
@[simp] theorem cleanm_UObligation (l:List (DObligation)):cleanr (l.map rUObligation)=true:=by rw [cleanr_iff]; simp
@[simp] theorem len_AObligation (x:DObligation):(rAObligation x).length=4:=by simp [rAObligation]
@[simp] theorem gAObligation0 (x:DObligation):(rAObligation x)[0]? = some (i64 x.System.N):=rfl
@[simp] theorem eAObligation0 (x:DObligation) (h:0<(rAObligation x).length):(rAObligation x)[0]=i64 x.System.N:=rfl
@[simp] theorem gAObligation1 (x:DObligation):(rAObligation x)[1]? = some (.sl 2 (x.System.Rows.map rALin)):=rfl
@[simp] theorem eAObligation1 (x:DObligation) (h:1<(rAObligation x).length):(rAObligation x)[1] = .sl 2 (x.System.Rows.map rALin):=rfl
@[simp] theorem gAObligation2 (x:DObligation):(rAObligation x)[2]? = some (i64 x.Target.Const):=rfl
@[simp] theorem eAObligation2 (x:DObligation) (h:2<(rAObligation x).length):(rAObligation x)[2]=i64 x.Target.Const:=rfl
@[simp] theorem gAObligation3 (x:DObligation):(rAObligation x)[3]? = some (.sl 1 (intsR x.Target.Coeffs)):=rfl
@[simp] theorem eAObligation3 (x:DObligation) (h:3<(rAObligation x).length):(rAObligation x)[3] = .sl 1 (intsR x.Target.Coeffs):=rfl
@[simp] theorem tAObligation (x:DObligation):List.take 4 (rAObligation x)=rAObligation x:=rfl
@[simp] theorem tAObligation_System (x:DObligation):List.take 2 (rAObligation x)=rASystem x.System:=rfl
@[simp] theorem tAObligation_Target (x:DObligation):List.take 2 (List.drop 2 (rAObligation x))=rALin x.Target:=rfl
@[simp] theorem gUObligation0 (x:DObligation):(rUObligation x)[0]? = some (i64 x.System.N):=rfl
@[simp] theorem eUObligation0 (x:DObligation) (h:0<(rUObligation x).length):(rUObligation x)[0]=i64 x.System.N:=rfl
@[simp] theorem gUObligation1 (x:DObligation):(rUObligation x)[1]? = some (.us 2 (x.System.Rows.map rULin)):=rfl
@[simp] theorem eUObligation1 (x:DObligation) (h:1<(rUObligation x).length):(rUObligation x)[1] = .us 2 (x.System.Rows.map rULin):=rfl
@[simp] theorem gUObligation2 (x:DObligation):(rUObligation x)[2]? = some (i64 x.Target.Const):=rfl
@[simp] theorem eUObligation2 (x:DObligation) (h:2<(rUObligation x).length):(rUObligation x)[2]=i64 x.Target.Const:=rfl
@[simp] theorem gUObligation3 (x:DObligation):(rUObligation x)[3]? = some (.us 1 (intsR x.Target.Coeffs)):=rfl
@[simp] theorem eUObligation3 (x:DObligation) (h:3<(rUObligation x).length):(rUObligation x)[3] = .us 1 (intsR x.Target.Coeffs):=rfl
@[simp] theorem tUObligation (x:DObligation):List.take 4 (rUObligation x)=rUObligation x:=rfl
@[simp] theorem tUObligation_System (x:DObligation):List.take 2 (rUObligation x)=rUSystem x.System:=rfl
@[simp] theorem tUObligation_Target (x:DObligation):List.take 2 (List.drop 2 (rUObligation x))=rULin x.Target:=rfl
structure DEdge where
 Rule:Int
 Call:Int
deriving DecidableEq
def rAEdge (x:DEdge):List AV:=[i64 x.Rule,i64 x.Call]
def rUEdge (x:DEdge):List AV:=[i64 x.Rule,i64 x.Call]
@[simp] theorem drl_UEdge (x:DEdge):drl (rUEdge x)=rAEdge x:=by simp [rUEdge,rAEdge]
@[simp] theorem drrm_UEdge (l:List (DEdge)):drr (l.map rUEdge)=l.map rAEdge:=by rw [drr_eq,List.map_map]; exact List.map_congr_left fun x _=>drl_UEdge x
@[simp] theorem clean_UEdge (x:DEdge):cleanl (rUEdge x)=true:=by simp [rUEdge]
@[simp] theorem cleanm_UEdge (l:List (DEdge)):cleanr (l.map rUEdge)=true:=by rw [cleanr_iff]; simp
@[simp] theorem cell_AEdge (x:DEdge):(rAEdge x).all isCell=true:=by simp [rAEdge]
@[simp] theorem len_AEdge (x:DEdge):(rAEdge x).length=2:=by simp [rAEdge]
@[simp] theorem bw_AEdge (x:DEdge) (h:Heap):bwl (rAEdge x) h=some (rAEdge x):=by simp [rAEdge]
@[simp] theorem gAEdge0 (x:DEdge):(rAEdge x)[0]? = some (i64 x.Rule):=rfl
@[simp] theorem eAEdge0 (x:DEdge) (h:0<(rAEdge x).length):(rAEdge x)[0]=i64 x.Rule:=rfl
@[simp] theorem gAEdge1 (x:DEdge):(rAEdge x)[1]? = some (i64 x.Call):=rfl
@[simp] theorem eAEdge1 (x:DEdge) (h:1<(rAEdge x).length):(rAEdge x)[1]=i64 x.Call:=rfl
@[simp] theorem tAEdge (x:DEdge):List.take 2 (rAEdge x)=rAEdge x:=rfl
@[simp] theorem gUEdge0 (x:DEdge):(rUEdge x)[0]? = some (i64 x.Rule):=rfl
@[simp] theorem eUEdge0 (x:DEdge) (h:0<(rUEdge x).length):(rUEdge x)[0]=i64 x.Rule:=rfl
@[simp] theorem gUEdge1 (x:DEdge):(rUEdge x)[1]? = some (i64 x.Call):=rfl
@[simp] theorem eUEdge1 (x:DEdge) (h:1<(rUEdge x).length):(rUEdge x)[1]=i64 x.Call:=rfl
@[simp] theorem tUEdge (x:DEdge):List.take 2 (rUEdge x)=rUEdge x:=rfl
end Go.Proofs.YtilcageplifbgaaGreat

namespace Go.Proofs.YtilcageplifbgaaGreat
set_option linter.all false
open Go Go.RowKit
attribute [simp] binS fillA srcRows
mutual
def limA:AV→Prop
 | .sl _ rows=>rows.length≤LIM
 | .us _ rows=>rows.length≤LIM
 | .str l=>l.length≤LIM
 | .agg cs=>limL cs
 | .tup cs=>limL cs
 | .undef | .int .. | .bool _ | .nil _ | .nilp | .ptr .. | .fptr .. | .ref .. | .fn .. | .mp _=>True
def limL:List AV→Prop
 | []=>True
 | a::as=>limA a∧limL as
end
section
variable {w:World} {L:Nat→Option Loc} {N:Nat}
mutual
theorem VR_lim:∀ (a:AV) (v:Value) (S:List Nat),VR w L N a v S→limA a
 | .sl ..,_,_,h=>by
   simp only [VR] at h
   obtain ⟨⟨A,cap,vals,_,hl,_⟩,_⟩:=h
   simp only [limA]; exact hl.1
 | .us ..,_,_,h=>by simp only [VR] at h; simp only [limA]; exact h.1
 | .str _,_,_,h=>by
   simp only [VR] at h
   obtain ⟨⟨b,_,_,hl⟩,_⟩:=h
   simp only [limA]; exact hl
 | .agg cs,_,_,h=>by simp only [VR] at h; obtain ⟨vs,_,h⟩:=h; simp only [limA]; exact VRl_lim cs _ _ h
 | .tup cs,_,_,h=>by simp only [VR] at h; obtain ⟨vs,_,h⟩:=h; simp only [limA]; exact VRl_lim cs _ _ h
 | .undef,_,_,_ | .int ..,_,_,_ | .bool _,_,_,_ | .nil _,_,_,_ | .nilp,_,_,_ | .ptr ..,_,_,_ | .fptr ..,_,_,_ | .ref ..,_,_,_ | .fn ..,_,_,_ | .mp _,_,_,_=>by simp only [limA]
theorem VRl_lim:∀ (as:List AV) (vs:List Value) (S:List Nat),VRl w L N as vs S→limL as
 | [],_,_,_=>by simp only [limL]
 | a::as,_,_,h=>by
   simp only [VRl] at h
   obtain ⟨v,vs',S1,S2,_,_,h1,h2⟩:=h
   simp only [limL]; exact ⟨VR_lim a _ _ h1,VRl_lim as _ _ h2⟩
end
end
theorem holds_of_lim {P:Program} {f:FuncId} {fn:Func} {as:List AV} {Q:AV→Prop} (hf:P.funcs[f]? = some fn) (hb:fn.body.isSome=true) (hn:(fn.name == "runtime.NumGoroutine")=false) (h:limL as→Holds P f as Q):Holds P f as Q:=
 ⟨by simp [callable,hf,hb,hn],fun w vs hv=>(h (VRl_lim as vs [] hv)).2 w vs hv⟩
attribute [simp] limA limL
theorem awpO_mono {P:Program} {K K':Env→Heap→Nat→Prop} (hk:∀ s h n,K s h n→K' s h n):∀ {os:List AO} {s:Env} {h:Heap} {n:Nat},awpO P os s h n K→awpO P os s h n K'
 | [],s,h,n,hw=>hk s h n hw
 | o::os,s,h,n,hw=>by
   simp only [awpO] at hw ⊢
   cases hg:o.g with
   | none=>rw [hg] at hw; exact aop_mono hw fun _ _ _ h=>awpO_mono hk h
   | some p=>
     obtain ⟨j,want⟩:=p
     rw [hg] at hw
     simp only at hw ⊢
     cases hs:s j <;> rw [hs] at hw <;> try exact hw.elim
     · exact ⟨fun e=>aop_mono (hw.1 e) fun _ _ _ h=>awpO_mono hk h,fun e=>awpO_mono hk (hw.2 e)⟩
     · rename_i vs
       cases vs
       · exact awpO_mono hk hw
       · exact hw.elim
theorem aopD_mono {P:Program} {s:Env} {h:Heap} {n:Nat} {K K':AV→Heap→Nat→Prop} {op:AOp} (hw:aopD P s h n K op) (hk:∀ r h n,K r h n→K' r h n):aopD P s h n K' op:=by
 unfold aopD at hw ⊢
 split at hw
 · split at hw
   · rename_i hf; try simp only [hf]
     exact ACall.mono hw fun _ _ _ h=>⟨h.1,hk _ _ _ h.2⟩
   · exact hw.elim
 · split at hw
   · exact hk _ _ _ hw
   · exact hk _ _ _ hw
   · exact ⟨hw.1,hk _ _ _ hw.2⟩
   · exact hk _ _ _ hw
   · exact hw.elim
 · exact aop_mono hw hk
theorem awpD_mono {P:Program} {K K':Env→Heap→Nat→Prop} (hk:∀ s h n,K s h n→K' s h n):∀ {t:DT} {s:Env} {h:Heap} {n:Nat},awpD P t s h n K→awpD P t s h n K'
 | .fin,s,h,n,hw=>hk s h n hw
 | .stuck,_,_,_,hw=>hw.elim
 | .both a b,s,h,n,hw=>⟨awpD_mono hk hw.1,awpD_mono hk hw.2⟩
 | .op o t,s,h,n,hw=>by
   simp only [awpD] at hw ⊢
   cases hg:o.g with
   | none=>rw [hg] at hw; exact aopD_mono hw fun _ _ _ h=>awpD_mono hk h
   | some p=>
     obtain ⟨j,want⟩:=p
     rw [hg] at hw
     simp only at hw ⊢
     cases hs:s j <;> rw [hs] at hw <;> try exact hw.elim
     · exact ⟨fun e=>aopD_mono (hw.1 e) fun _ _ _ h=>awpD_mono hk h,fun e=>awpD_mono hk (hw.2 e)⟩
     · rename_i vs
       cases vs
       · exact awpD_mono hk hw
       · exact hw.elim
 | .hop o ps t,s,h,n,hw=>by
   simp only [awpD] at hw ⊢
   cases hg:o.g with
   | none=>rw [hg] at hw; exact aopD_mono hw fun _ _ _ h=>⟨h.1,awpD_mono hk h.2⟩
   | some p=>
     obtain ⟨j,want⟩:=p
     rw [hg] at hw
     simp only at hw ⊢
     cases hs:s j <;> rw [hs] at hw <;> try exact hw.elim
     · exact ⟨fun e=>aopD_mono (hw.1 e) fun _ _ _ h=>⟨h.1,awpD_mono hk h.2⟩,fun e=>awpD_mono hk (hw.2 e)⟩
     · rename_i vs
       cases vs
       · exact awpD_mono hk hw
       · exact hw.elim
theorem awp_mono {P:Program} : ∀ {a:AC} {s:Env} {h:Heap} {n:Nat} {Q Q':Fin},awp P a s h n Q→(∀ e s h n,Q e s h n→Q' e s h n)→awp P a s h n Q':=by
 intro a
 induction a with
 | skip=>intro s h n Q Q' hw hq; exact hq _ _ _ _ hw
 | reg os=>intro s h n Q Q' hw hq; exact awpO_mono (hq .normal) hw
 | seq a b iha ihb=>
   intro s h n Q Q' hw hq
   refine iha hw fun e s h n hh => ?_
   cases e
   · exact ihb hh hq
   · exact hq _ _ _ _ hh
   · exact hq _ _ _ _ hh
 | cond c a b iha ihb=>
   intro s h n Q Q' hw hq
   simp only [awp] at hw ⊢
   split at hw
   · exact ⟨fun e=>iha (hw.1 e) hq,fun e=>ihb (hw.2 e) hq⟩
   · exact hw.elim
 | blk id a iha=>
   intro s h n Q Q' hw hq
   refine iha hw fun e s h n hh => ?_
   cases e
   · exact hq _ _ _ _ hh
   · simp only at hh ⊢; split
     · rename_i hx; rw [if_pos hx] at hh; exact hq _ _ _ _ hh
     · rename_i hx; rw [if_neg hx] at hh; exact hq _ _ _ _ hh
   · exact hq _ _ _ _ hh
 | loop a iha=>
   intro s h n Q Q' hw hq
   obtain ⟨I,h0,hs⟩:=hw
   refine ⟨I,h0,fun k s h n hi=>iha (hs k s h n hi) fun e s h n hh => ?_⟩
   cases e
   · exact hh
   · exact hq _ _ _ _ hh
   · exact hq _ _ _ _ hh
 | exit id=>intro s h n Q Q' hw hq; exact hq _ _ _ _ hw
 | ret=>intro s h n Q Q' hw hq; exact hq _ _ _ _ hw
 | draw t=>intro s h n Q Q' hw hq; exact awpD_mono (hq .normal) hw
@[simp ↓ high] theorem rC_condt {P:Program} {ks:List Kt} {s:Env} {h:Heap} {n:Nat} {Q:Fin} {c:Opd} {a b:AC} (hc:ev s c = .bool true):rC P (.cond c a b) ks s h n Q=rC P a ks s h n Q:=by
 rw [rC_cond,hc]; simp [gd]
@[simp ↓ high] theorem rC_condf {P:Program} {ks:List Kt} {s:Env} {h:Heap} {n:Nat} {Q:Fin} {c:Opd} {a b:AC} (hc:ev s c = .bool false):rC P (.cond c a b) ks s h n Q=rC P b ks s h n Q:=by
 rw [rC_cond,hc]; simp [gd]
section
variable {P:Program} {s:Env} {h:Heap} {n:Nat} {ks:List Kt} {Q:Fin} {a:AC}
def forK (P:Program) (ks:List Kt) (Q:Fin) (keep:List Nat) (s0:Env) (ic i:Nat) (J:Nat→Env→Heap→Nat→Prop):Fin:=fun e s h n=>match e with
 | .normal=>(∀ j∈keep,s j=s0 j)∧s ic = .int .i64 ((i:Int)+1)∧J (i+1) s h n
 | e=>kont P ks e s h n Q
def endK (P:Program) (ks:List Kt) (Q:Fin):Fin:=fun e s h n=>match e with
 | .normal=>False
 | e=>kont P ks e s h n Q
@[simp ↓] theorem forK_normal {keep:List Nat} {s0 s':Env} {ic i:Nat} {J:Nat→Env→Heap→Nat→Prop} {h':Heap} {n':Nat} : forK P ks Q keep s0 ic i J .normal s' h' n'=((∀ j∈keep,s' j=s0 j)∧s' ic = .int .i64 ((i:Int)+1)∧J (i+1) s' h' n'):=propext Iff.rfl
@[simp ↓] theorem forK_ret {keep:List Nat} {s0 s':Env} {ic i:Nat} {J:Nat→Env→Heap→Nat→Prop} {h':Heap} {n':Nat} : forK P ks Q keep s0 ic i J .ret s' h' n'=kont P ks .ret s' h' n' Q:=propext Iff.rfl
@[simp ↓] theorem forK_exit {keep:List Nat} {s0 s':Env} {ic i x:Nat} {J:Nat→Env→Heap→Nat→Prop} {h':Heap} {n':Nat} : forK P ks Q keep s0 ic i J (.exit x) s' h' n'=kont P ks (.exit x) s' h' n' Q:=propext Iff.rfl
@[simp ↓] theorem endK_ret {s':Env} {h':Heap} {n':Nat} : endK P ks Q .ret s' h' n'=kont P ks .ret s' h' n' Q:=propext Iff.rfl
@[simp ↓] theorem endK_exit {x:Nat} {s':Env} {h':Heap} {n':Nat} : endK P ks Q (.exit x) s' h' n'=kont P ks (.exit x) s' h' n' Q:=propext Iff.rfl
theorem rL_forH (keep:List Nat) (ic N:Nat) (J:Nat→Env→Heap→Nat→Prop) (hN:N≤LIM) (hi0:s ic = .int .i64 0) (hJ0:J 0 s h n)
   (hstep:∀ i s' h' n',i<N→¬N≤i→(∀ j∈keep,s' j=s j)→s' ic = .int .i64 (i:Int)→IntKind.i64.wrap ((i:Int)+1)=(i:Int)+1→J i s' h' n'→rC P a [] s' h' n' (forK P ks Q keep s ic i J))
   (hend:∀ s' h' n',(∀ j∈keep,s' j=s j)→s' ic = .int .i64 (N:Int)→J N s' h' n'→rC P a [] s' h' n' (endK P ks Q)):rL P a ks s h n Q:=by
 refine rL_of (fun k s' h' n'=>∃ i:Nat,k=N - i∧i≤N∧(∀ j∈keep,s' j=s j)∧s' ic = .int .i64 (i:Int)∧J i s' h' n') N ⟨0,by simp,Nat.zero_le _,fun _ _=>rfl,hi0,hJ0⟩ ?_
 rintro k s' h' n' ⟨i,rfl,hi,hk,hic,hJ⟩
 unfold LIM at hN
 by_cases hlt:i<N
 · have:=hstep i s' h' n' hlt (by omega) hk hic (wrap64 (by omega)) hJ
   unfold rC at this ⊢
   refine awp_mono this ?_
   intro e s2 h2 n2 hq
   cases e
   · obtain ⟨q1,q2,q3⟩:=hq
     exact ⟨N - (i+1),by omega,i+1,rfl,by omega,q1,q2,q3⟩
   · exact hq
   · exact hq
 · have hiN:i=N:=by omega
   subst hiN
   have:=hend s' h' n' hk hic hJ
   unfold rC at this ⊢
   refine awp_mono this ?_
   intro e s2 h2 n2 hq
   cases e
   · exact hq.elim
   · exact hq
   · exact hq
theorem rL_for (keep:List Nat) (ic N:Nat) (J:Nat→Env→Prop) (hN:N≤LIM) (hi0:s ic = .int .i64 0) (hJ0:J 0 s)
   (hstep:∀ i s',i<N→¬N≤i→(∀ j∈keep,s' j=s j)→s' ic = .int .i64 (i:Int)→IntKind.i64.wrap ((i:Int)+1)=(i:Int)+1→J i s'→rC P a [] s' h n (forK P ks Q keep s ic i fun i s' h' n'=>J i s'∧h'=h∧n'=n))
   (hend:∀ s',(∀ j∈keep,s' j=s j)→s' ic = .int .i64 (N:Int)→J N s'→rC P a [] s' h n (endK P ks Q)):rL P a ks s h n Q:=by
 refine rL_forH keep ic N (fun i s' h' n'=>J i s'∧h'=h∧n'=n) hN hi0 ⟨hJ0,rfl,rfl⟩ ?_ ?_
 · rintro i s' h' n' hi hg hk hic hw ⟨hJ,rfl,rfl⟩; exact hstep i s' hi hg hk hic hw hJ
 · rintro s' h' n' hk hic ⟨hJ,rfl,rfl⟩; exact hend s' hk hic hJ
theorem rL_forO (keep:List Nat) (ic N:Nat) (J:Nat→Env→Heap→Nat→Prop) (hN:N≤LIM) (hi0:s ic = .int .i64 0) (hJ0:J 0 s h n)
   (hstep:∀ i s' h' n' (R:Fin),i<N→¬N≤i→(∀ j∈keep,s' j=s j)→s' ic = .int .i64 (i:Int)→IntKind.i64.wrap ((i:Int)+1)=(i:Int)+1→J i s' h' n' →
     (∀ s'' h'' n'',(∀ j∈keep,s'' j=s j)→s'' ic = .int .i64 ((i:Int)+1)→J (i+1) s'' h'' n''→R .normal s'' h'' n'') →
     (∀ s'' h'' n'',kont P ks .ret s'' h'' n'' Q→R .ret s'' h'' n'')→(∀ x s'' h'' n'',kont P ks (.exit x) s'' h'' n'' Q→R (.exit x) s'' h'' n'')→rC P a [] s' h' n' R)
   (hend:∀ s' h' n' (R:Fin),(∀ j∈keep,s' j=s j)→s' ic = .int .i64 (N:Int)→J N s' h' n' →
     (∀ s'' h'' n'',kont P ks .ret s'' h'' n'' Q→R .ret s'' h'' n'')→(∀ x s'' h'' n'',kont P ks (.exit x) s'' h'' n'' Q→R (.exit x) s'' h'' n'')→rC P a [] s' h' n' R):rL P a ks s h n Q:=by
 refine rL_forH keep ic N J hN hi0 hJ0 ?_ ?_
 · intro i s' h' n' hi hg hk hic hw hJ
   exact hstep i s' h' n' _ hi hg hk hic hw hJ (fun _ _ _ h1 h2 h3=>⟨h1,h2,h3⟩) (fun _ _ _ h=>h) (fun _ _ _ _ h=>h)
 · intro s' h' n' hk hic hJ
   exact hend s' h' n' _ hk hic hJ (fun _ _ _ h=>h) (fun _ _ _ _ h=>h)
theorem rL_forS (keep:List Nat) (ic N:Nat) (J:Nat→Env→Prop) (hN:N≤LIM) (hi0:s ic = .int .i64 0) (hJ0:J 0 s)
   (hstep:∀ i s' h' (R:Fin),i<N→¬N≤i→(∀ j∈keep,s' j=s j)→s' ic = .int .i64 (i:Int)→IntKind.i64.wrap ((i:Int)+1)=(i:Int)+1→J i s'→(∀ id,h' id=h id) →
     (∀ s'',(∀ j∈keep,s'' j=s j)→s'' ic = .int .i64 ((i:Int)+1)→J (i+1) s''→R .normal s'' h' n) →
     (∀ s'' h'' n'',kont P ks .ret s'' h'' n'' Q→R .ret s'' h'' n'')→(∀ x s'',kont P ks (.exit x) s'' h n Q→R (.exit x) s'' h' n)→rC P a [] s' h' n R)
   (hend:∀ s' h' (R:Fin),(∀ j∈keep,s' j=s j)→s' ic = .int .i64 (N:Int)→J N s'→(∀ id,h' id=h id) →
     (∀ s'' h'' n'',kont P ks .ret s'' h'' n'' Q→R .ret s'' h'' n'')→(∀ x s'',kont P ks (.exit x) s'' h n Q→R (.exit x) s'' h' n)→rC P a [] s' h' n R):rL P a ks s h n Q:=by
 refine rL_for keep ic N J hN hi0 hJ0 ?_ ?_
 · intro i s' hi hg hk hic hw hJ
   exact hstep i s' h _ hi hg hk hic hw hJ (fun _=>rfl) (fun _ h1 h2 h3=>⟨h1,h2,h3,rfl,rfl⟩) (fun _ _ _ h=>h) (fun _ _ h=>h)
 · intro s' hk hic hJ
   exact hend s' h _ hk hic hJ (fun _=>rfl) (fun _ _ _ h=>h) (fun _ _ h=>h)
end
end Go.Proofs.YtilcageplifbgaaGreat
