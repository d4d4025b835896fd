/- The types of the program, as data: read form (A), own form (U), weight (w). -/
import Derived.Test.YtoejpoioleffpaaRD
namespace Go.Proofs.Ytoejpoioleffpaa
set_option linter.all false
open Go Go.RowKit Go.Proofs

structure DLin where
  Const : Int
  Coeffs : List Int
deriving DecidableEq
def rALin (x : DLin) : List AV := [i64 x.Const, .sl 1 (intsR x.Coeffs)]
def rULin (x : DLin) : List AV := [i64 x.Const, .us 1 (intsR x.Coeffs)]
@[simp] theorem drl_ULin (x : DLin) : drl (rULin x) = rALin x := by simp [rULin, rALin]
@[simp] theorem drrm_ULin (l : List (DLin)) : drr (l.map rULin) = l.map rALin := by rw [drr_eq, List.map_map]; exact List.map_congr_left fun x _ => drl_ULin x
@[simp] theorem clean_ULin (x : DLin) : cleanl (rULin x) = true := by simp [rULin]
@[simp] theorem cleanm_ULin (l : List (DLin)) : cleanr (l.map rULin) = true := by rw [cleanr_iff]; simp
@[simp] theorem cell_ULin (x : DLin) : (rULin x).all isCell = true := by simp [rULin]
@[simp] theorem cell_ALin (x : DLin) : (rALin x).all isCell = true := by simp [rALin]
@[simp] theorem len_ULin (x : DLin) : (rULin x).length = 2 := by simp [rULin]
@[simp] theorem len_ALin (x : DLin) : (rALin x).length = 2 := by simp [rALin]
@[simp] theorem bw_ALin (x : DLin) (h : Heap) : bwl (rALin x) h = some (rALin x) := by simp [rALin]
@[simp] theorem gALin0 (x : DLin) : (rALin x)[0]? = some (i64 x.Const) := rfl
@[simp] theorem eALin0 (x : DLin) (h : 0 < (rALin x).length) : (rALin x)[0] = i64 x.Const := rfl
@[simp] theorem gALin1 (x : DLin) : (rALin x)[1]? = some (.sl 1 (intsR x.Coeffs)) := rfl
@[simp] theorem eALin1 (x : DLin) (h : 1 < (rALin x).length) : (rALin x)[1] = .sl 1 (intsR x.Coeffs) := rfl
@[simp] theorem tALin (x : DLin) : List.take 2 (rALin x) = rALin x := rfl
@[simp] theorem gULin0 (x : DLin) : (rULin x)[0]? = some (i64 x.Const) := rfl
@[simp] theorem eULin0 (x : DLin) (h : 0 < (rULin x).length) : (rULin x)[0] = i64 x.Const := rfl
@[simp] theorem gULin1 (x : DLin) : (rULin x)[1]? = some (.us 1 (intsR x.Coeffs)) := rfl
@[simp] theorem eULin1 (x : DLin) (h : 1 < (rULin x).length) : (rULin x)[1] = .us 1 (intsR x.Coeffs) := rfl
@[simp] theorem tULin (x : DLin) : List.take 2 (rULin x) = rULin x := rfl

def wIntS (l : List Int) : Nat := l.length
def wLin (x : DLin) : Nat := wIntS x.Coeffs
def wLinS (l : List DLin) : Nat := wL wLin l
def rALinS (l : List DLin) : List AV := [.sl 2 (l.map rALin)]
def rULinS (l : List DLin) : List AV := [.us 2 (l.map rULin)]
@[simp] theorem drl_ULinS (x : List DLin) : drl (rULinS x) = rALinS x := by simp [rULinS, rALinS]
@[simp] theorem drrm_ULinS (l : List (List DLin)) : drr (l.map rULinS) = l.map rALinS := by rw [drr_eq, List.map_map]; exact List.map_congr_left fun x _ => drl_ULinS x
@[simp] theorem clean_ULinS (x : List DLin) : cleanl (rULinS x) = true := by simp [rULinS]
@[simp] theorem cleanm_ULinS (l : List (List DLin)) : cleanr (l.map rULinS) = true := by rw [cleanr_iff]; simp
@[simp] theorem cell_ULinS (x : List DLin) : (rULinS x).all isCell = true := by simp [rULinS]
@[simp] theorem cell_ALinS (x : List DLin) : (rALinS x).all isCell = true := by simp [rALinS]
@[simp] theorem len_ULinS (x : List DLin) : (rULinS x).length = 1 := by simp [rULinS]
@[simp] theorem len_ALinS (x : List DLin) : (rALinS x).length = 1 := by simp [rALinS]
@[simp] theorem bw_ALinS (x : List DLin) (h : Heap) : bwl (rALinS x) h = some (rALinS x) := by simp [rALinS]

structure DSystem where
  N : Int
  Rows : List DLin
deriving DecidableEq
def rASystem (x : DSystem) : List AV := [i64 x.N, .sl 2 (x.Rows.map rALin)]
def rUSystem (x : DSystem) : List AV := [i64 x.N, .us 2 (x.Rows.map rULin)]
@[simp] theorem drl_USystem (x : DSystem) : drl (rUSystem x) = rASystem x := by simp [rUSystem, rASystem]
@[simp] theorem drrm_USystem (l : List (DSystem)) : drr (l.map rUSystem) = l.map rASystem := by rw [drr_eq, List.map_map]; exact List.map_congr_left fun x _ => drl_USystem x
@[simp] theorem clean_USystem (x : DSystem) : cleanl (rUSystem x) = true := by simp [rUSystem]
@[simp] theorem cleanm_USystem (l : List (DSystem)) : cleanr (l.map rUSystem) = true := by rw [cleanr_iff]; simp
@[simp] theorem cell_USystem (x : DSystem) : (rUSystem x).all isCell = true := by simp [rUSystem]
@[simp] theorem cell_ASystem (x : DSystem) : (rASystem x).all isCell = true := by simp [rASystem]
@[simp] theorem len_USystem (x : DSystem) : (rUSystem x).length = 2 := by simp [rUSystem]
@[simp] theorem len_ASystem (x : DSystem) : (rASystem x).length = 2 := by simp [rASystem]
@[simp] theorem bw_ASystem (x : DSystem) (h : Heap) : bwl (rASystem x) h = some (rASystem x) := by simp [rASystem]
@[simp] theorem gASystem0 (x : DSystem) : (rASystem x)[0]? = some (i64 x.N) := rfl
@[simp] theorem eASystem0 (x : DSystem) (h : 0 < (rASystem x).length) : (rASystem x)[0] = i64 x.N := rfl
@[simp] theorem gASystem1 (x : DSystem) : (rASystem x)[1]? = some (.sl 2 (x.Rows.map rALin)) := rfl
@[simp] theorem eASystem1 (x : DSystem) (h : 1 < (rASystem x).length) : (rASystem x)[1] = .sl 2 (x.Rows.map rALin) := rfl
@[simp] theorem tASystem (x : DSystem) : List.take 2 (rASystem x) = rASystem x := rfl
@[simp] theorem gUSystem0 (x : DSystem) : (rUSystem x)[0]? = some (i64 x.N) := rfl
@[simp] theorem eUSystem0 (x : DSystem) (h : 0 < (rUSystem x).length) : (rUSystem x)[0] = i64 x.N := rfl
@[simp] theorem gUSystem1 (x : DSystem) : (rUSystem x)[1]? = some (.us 2 (x.Rows.map rULin)) := rfl
@[simp] theorem eUSystem1 (x : DSystem) (h : 1 < (rUSystem x).length) : (rUSystem x)[1] = .us 2 (x.Rows.map rULin) := rfl
@[simp] theorem tUSystem (x : DSystem) : List.take 2 (rUSystem x) = rUSystem x := rfl

def wSystem (x : DSystem) : Nat := wLinS x.Rows
def wSystemS (l : List DSystem) : Nat := wL wSystem l
def rASystemS (l : List DSystem) : List AV := [.sl 2 (l.map rASystem)]
def rUSystemS (l : List DSystem) : List AV := [.us 2 (l.map rUSystem)]
@[simp] theorem drl_USystemS (x : List DSystem) : drl (rUSystemS x) = rASystemS x := by simp [rUSystemS, rASystemS]
@[simp] theorem drrm_USystemS (l : List (List DSystem)) : drr (l.map rUSystemS) = l.map rASystemS := by rw [drr_eq, List.map_map]; exact List.map_congr_left fun x _ => drl_USystemS x
@[simp] theorem clean_USystemS (x : List DSystem) : cleanl (rUSystemS x) = true := by simp [rUSystemS]
@[simp] theorem cleanm_USystemS (l : List (List DSystem)) : cleanr (l.map rUSystemS) = true := by rw [cleanr_iff]; simp
@[simp] theorem cell_USystemS (x : List DSystem) : (rUSystemS x).all isCell = true := by simp [rUSystemS]
@[simp] theorem cell_ASystemS (x : List DSystem) : (rASystemS x).all isCell = true := by simp [rASystemS]
@[simp] theorem len_USystemS (x : List DSystem) : (rUSystemS x).length = 1 := by simp [rUSystemS]
@[simp] theorem len_ASystemS (x : List DSystem) : (rASystemS x).length = 1 := by simp [rASystemS]
@[simp] theorem bw_ASystemS (x : List DSystem) (h : Heap) : bwl (rASystemS x) h = some (rASystemS x) := by simp [rASystemS]

structure DFarkas where
  Scale : Int
  Mult : List Int
deriving DecidableEq
def rAFarkas (x : DFarkas) : List AV := [i64 x.Scale, .sl 1 (intsR x.Mult)]
def rUFarkas (x : DFarkas) : List AV := [i64 x.Scale, .us 1 (intsR x.Mult)]
@[simp] theorem drl_UFarkas (x : DFarkas) : drl (rUFarkas x) = rAFarkas x := by simp [rUFarkas, rAFarkas]
@[simp] theorem drrm_UFarkas (l : List (DFarkas)) : drr (l.map rUFarkas) = l.map rAFarkas := by rw [drr_eq, List.map_map]; exact List.map_congr_left fun x _ => drl_UFarkas x
@[simp] theorem clean_UFarkas (x : DFarkas) : cleanl (rUFarkas x) = true := by simp [rUFarkas]
@[simp] theorem cleanm_UFarkas (l : List (DFarkas)) : cleanr (l.map rUFarkas) = true := by rw [cleanr_iff]; simp
@[simp] theorem cell_UFarkas (x : DFarkas) : (rUFarkas x).all isCell = true := by simp [rUFarkas]
@[simp] theorem cell_AFarkas (x : DFarkas) : (rAFarkas x).all isCell = true := by simp [rAFarkas]
@[simp] theorem len_UFarkas (x : DFarkas) : (rUFarkas x).length = 2 := by simp [rUFarkas]
@[simp] theorem len_AFarkas (x : DFarkas) : (rAFarkas x).length = 2 := by simp [rAFarkas]
@[simp] theorem bw_AFarkas (x : DFarkas) (h : Heap) : bwl (rAFarkas x) h = some (rAFarkas x) := by simp [rAFarkas]
@[simp] theorem gAFarkas0 (x : DFarkas) : (rAFarkas x)[0]? = some (i64 x.Scale) := rfl
@[simp] theorem eAFarkas0 (x : DFarkas) (h : 0 < (rAFarkas x).length) : (rAFarkas x)[0] = i64 x.Scale := rfl
@[simp] theorem gAFarkas1 (x : DFarkas) : (rAFarkas x)[1]? = some (.sl 1 (intsR x.Mult)) := rfl
@[simp] theorem eAFarkas1 (x : DFarkas) (h : 1 < (rAFarkas x).length) : (rAFarkas x)[1] = .sl 1 (intsR x.Mult) := rfl
@[simp] theorem tAFarkas (x : DFarkas) : List.take 2 (rAFarkas x) = rAFarkas x := rfl
@[simp] theorem gUFarkas0 (x : DFarkas) : (rUFarkas x)[0]? = some (i64 x.Scale) := rfl
@[simp] theorem eUFarkas0 (x : DFarkas) (h : 0 < (rUFarkas x).length) : (rUFarkas x)[0] = i64 x.Scale := rfl
@[simp] theorem gUFarkas1 (x : DFarkas) : (rUFarkas x)[1]? = some (.us 1 (intsR x.Mult)) := rfl
@[simp] theorem eUFarkas1 (x : DFarkas) (h : 1 < (rUFarkas x).length) : (rUFarkas x)[1] = .us 1 (intsR x.Mult) := rfl
@[simp] theorem tUFarkas (x : DFarkas) : List.take 2 (rUFarkas x) = rUFarkas x := rfl

def wFarkas (x : DFarkas) : Nat := wIntS x.Mult
def wFarkasS (l : List DFarkas) : Nat := wL wFarkas l
def rAFarkasS (l : List DFarkas) : List AV := [.sl 2 (l.map rAFarkas)]
def rUFarkasS (l : List DFarkas) : List AV := [.us 2 (l.map rUFarkas)]
@[simp] theorem drl_UFarkasS (x : List DFarkas) : drl (rUFarkasS x) = rAFarkasS x := by simp [rUFarkasS, rAFarkasS]
@[simp] theorem drrm_UFarkasS (l : List (List DFarkas)) : drr (l.map rUFarkasS) = l.map rAFarkasS := by rw [drr_eq, List.map_map]; exact List.map_congr_left fun x _ => drl_UFarkasS x
@[simp] theorem clean_UFarkasS (x : List DFarkas) : cleanl (rUFarkasS x) = true := by simp [rUFarkasS]
@[simp] theorem cleanm_UFarkasS (l : List (List DFarkas)) : cleanr (l.map rUFarkasS) = true := by rw [cleanr_iff]; simp
@[simp] theorem cell_UFarkasS (x : List DFarkas) : (rUFarkasS x).all isCell = true := by simp [rUFarkasS]
@[simp] theorem cell_AFarkasS (x : List DFarkas) : (rAFarkasS x).all isCell = true := by simp [rAFarkasS]
@[simp] theorem len_UFarkasS (x : List DFarkas) : (rUFarkasS x).length = 1 := by simp [rUFarkasS]
@[simp] theorem len_AFarkasS (x : List DFarkas) : (rAFarkasS x).length = 1 := by simp [rAFarkasS]
@[simp] theorem bw_AFarkasS (x : List DFarkas) (h : Heap) : bwl (rAFarkasS x) h = some (rAFarkasS x) := by simp [rAFarkasS]

structure DTerm where
  Coeff : Int
  Name : Str
deriving DecidableEq
def rATerm (x : DTerm) : List AV := [i64 x.Coeff, .str x.Name]
def rUTerm (x : DTerm) : List AV := [i64 x.Coeff, .str x.Name]
@[simp] theorem drl_UTerm (x : DTerm) : drl (rUTerm x) = rATerm x := by simp [rUTerm, rATerm]
@[simp] theorem drrm_UTerm (l : List (DTerm)) : drr (l.map rUTerm) = l.map rATerm := by rw [drr_eq, List.map_map]; exact List.map_congr_left fun x _ => drl_UTerm x
@[simp] theorem clean_UTerm (x : DTerm) : cleanl (rUTerm x) = true := by simp [rUTerm]
@[simp] theorem cleanm_UTerm (l : List (DTerm)) : cleanr (l.map rUTerm) = true := by rw [cleanr_iff]; simp
@[simp] theorem cell_UTerm (x : DTerm) : (rUTerm x).all isCell = true := by simp [rUTerm]
@[simp] theorem cell_ATerm (x : DTerm) : (rATerm x).all isCell = true := by simp [rATerm]
@[simp] theorem len_UTerm (x : DTerm) : (rUTerm x).length = 2 := by simp [rUTerm]
@[simp] theorem len_ATerm (x : DTerm) : (rATerm x).length = 2 := by simp [rATerm]
@[simp] theorem bw_ATerm (x : DTerm) (h : Heap) : bwl (rATerm x) h = some (rATerm x) := by simp [rATerm]
@[simp] theorem gATerm0 (x : DTerm) : (rATerm x)[0]? = some (i64 x.Coeff) := rfl
@[simp] theorem eATerm0 (x : DTerm) (h : 0 < (rATerm x).length) : (rATerm x)[0] = i64 x.Coeff := rfl
@[simp] theorem gATerm1 (x : DTerm) : (rATerm x)[1]? = some (.str x.Name) := rfl
@[simp] theorem eATerm1 (x : DTerm) (h : 1 < (rATerm x).length) : (rATerm x)[1] = .str x.Name := rfl
@[simp] theorem tATerm (x : DTerm) : List.take 2 (rATerm x) = rATerm x := rfl
@[simp] theorem gUTerm0 (x : DTerm) : (rUTerm x)[0]? = some (i64 x.Coeff) := rfl
@[simp] theorem eUTerm0 (x : DTerm) (h : 0 < (rUTerm x).length) : (rUTerm x)[0] = i64 x.Coeff := rfl
@[simp] theorem gUTerm1 (x : DTerm) : (rUTerm x)[1]? = some (.str x.Name) := rfl
@[simp] theorem eUTerm1 (x : DTerm) (h : 1 < (rUTerm x).length) : (rUTerm x)[1] = .str x.Name := rfl
@[simp] theorem tUTerm (x : DTerm) : List.take 2 (rUTerm x) = rUTerm x := rfl

def wTerm (x : DTerm) : Nat := x.Name.length
def wTermS (l : List DTerm) : Nat := wL wTerm l
def rATermS (l : List DTerm) : List AV := [.sl 2 (l.map rATerm)]
def rUTermS (l : List DTerm) : List AV := [.us 2 (l.map rUTerm)]
@[simp] theorem drl_UTermS (x : List DTerm) : drl (rUTermS x) = rATermS x := by simp [rUTermS, rATermS]
@[simp] theorem drrm_UTermS (l : List (List DTerm)) : drr (l.map rUTermS) = l.map rATermS := by rw [drr_eq, List.map_map]; exact List.map_congr_left fun x _ => drl_UTermS x
@[simp] theorem clean_UTermS (x : List DTerm) : cleanl (rUTermS x) = true := by simp [rUTermS]
@[simp] theorem cleanm_UTermS (l : List (List DTerm)) : cleanr (l.map rUTermS) = true := by rw [cleanr_iff]; simp
@[simp] theorem cell_UTermS (x : List DTerm) : (rUTermS x).all isCell = true := by simp [rUTermS]
@[simp] theorem cell_ATermS (x : List DTerm) : (rATermS x).all isCell = true := by simp [rATermS]
@[simp] theorem len_UTermS (x : List DTerm) : (rUTermS x).length = 1 := by simp [rUTermS]
@[simp] theorem len_ATermS (x : List DTerm) : (rATermS x).length = 1 := by simp [rATermS]
@[simp] theorem bw_ATermS (x : List DTerm) (h : Heap) : bwl (rATermS x) h = some (rATermS x) := by simp [rATermS]

structure DSum where
  Const : Int
  Terms : List DTerm
deriving DecidableEq
def rASum (x : DSum) : List AV := [i64 x.Const, .sl 2 (x.Terms.map rATerm)]
def rUSum (x : DSum) : List AV := [i64 x.Const, .us 2 (x.Terms.map rUTerm)]
@[simp] theorem drl_USum (x : DSum) : drl (rUSum x) = rASum x := by simp [rUSum, rASum]
@[simp] theorem drrm_USum (l : List (DSum)) : drr (l.map rUSum) = l.map rASum := by rw [drr_eq, List.map_map]; exact List.map_congr_left fun x _ => drl_USum x
@[simp] theorem clean_USum (x : DSum) : cleanl (rUSum x) = true := by simp [rUSum]
@[simp] theorem cleanm_USum (l : List (DSum)) : cleanr (l.map rUSum) = true := by rw [cleanr_iff]; simp
@[simp] theorem cell_USum (x : DSum) : (rUSum x).all isCell = true := by simp [rUSum]
@[simp] theorem cell_ASum (x : DSum) : (rASum x).all isCell = true := by simp [rASum]
@[simp] theorem len_USum (x : DSum) : (rUSum x).length = 2 := by simp [rUSum]
@[simp] theorem len_ASum (x : DSum) : (rASum x).length = 2 := by simp [rASum]
@[simp] theorem bw_ASum (x : DSum) (h : Heap) : bwl (rASum x) h = some (rASum x) := by simp [rASum]
@[simp] theorem gASum0 (x : DSum) : (rASum x)[0]? = some (i64 x.Const) := rfl
@[simp] theorem eASum0 (x : DSum) (h : 0 < (rASum x).length) : (rASum x)[0] = i64 x.Const := rfl
@[simp] theorem gASum1 (x : DSum) : (rASum x)[1]? = some (.sl 2 (x.Terms.map rATerm)) := rfl
@[simp] theorem eASum1 (x : DSum) (h : 1 < (rASum x).length) : (rASum x)[1] = .sl 2 (x.Terms.map rATerm) := rfl
@[simp] theorem tASum (x : DSum) : List.take 2 (rASum x) = rASum x := rfl
@[simp] theorem gUSum0 (x : DSum) : (rUSum x)[0]? = some (i64 x.Const) := rfl
@[simp] theorem eUSum0 (x : DSum) (h : 0 < (rUSum x).length) : (rUSum x)[0] = i64 x.Const := rfl
@[simp] theorem gUSum1 (x : DSum) : (rUSum x)[1]? = some (.us 2 (x.Terms.map rUTerm)) := rfl
@[simp] theorem eUSum1 (x : DSum) (h : 1 < (rUSum x).length) : (rUSum x)[1] = .us 2 (x.Terms.map rUTerm) := rfl
@[simp] theorem tUSum (x : DSum) : List.take 2 (rUSum x) = rUSum x := rfl

def wSum (x : DSum) : Nat := wTermS x.Terms
def wSumS (l : List DSum) : Nat := wL wSum l
def rASumS (l : List DSum) : List AV := [.sl 2 (l.map rASum)]
def rUSumS (l : List DSum) : List AV := [.us 2 (l.map rUSum)]
@[simp] theorem drl_USumS (x : List DSum) : drl (rUSumS x) = rASumS x := by simp [rUSumS, rASumS]
@[simp] theorem drrm_USumS (l : List (List DSum)) : drr (l.map rUSumS) = l.map rASumS := by rw [drr_eq, List.map_map]; exact List.map_congr_left fun x _ => drl_USumS x
@[simp] theorem clean_USumS (x : List DSum) : cleanl (rUSumS x) = true := by simp [rUSumS]
@[simp] theorem cleanm_USumS (l : List (List DSum)) : cleanr (l.map rUSumS) = true := by rw [cleanr_iff]; simp
@[simp] theorem cell_USumS (x : List DSum) : (rUSumS x).all isCell = true := by simp [rUSumS]
@[simp] theorem cell_ASumS (x : List DSum) : (rASumS x).all isCell = true := by simp [rASumS]
@[simp] theorem len_USumS (x : List DSum) : (rUSumS x).length = 1 := by simp [rUSumS]
@[simp] theorem len_ASumS (x : List DSum) : (rASumS x).length = 1 := by simp [rASumS]
@[simp] theorem bw_ASumS (x : List DSum) (h : Heap) : bwl (rASumS x) h = some (rASumS x) := by simp [rASumS]

structure DArg where
  Lst : Bool
  Heads : List DSum
  Base : Str
deriving DecidableEq
def rAArg (x : DArg) : List AV := [.bool x.Lst, .sl 2 (x.Heads.map rASum), .str x.Base]
def rUArg (x : DArg) : List AV := [.bool x.Lst, .us 2 (x.Heads.map rUSum), .str x.Base]
@[simp] theorem drl_UArg (x : DArg) : drl (rUArg x) = rAArg x := by simp [rUArg, rAArg]
@[simp] theorem drrm_UArg (l : List (DArg)) : drr (l.map rUArg) = l.map rAArg := by rw [drr_eq, List.map_map]; exact List.map_congr_left fun x _ => drl_UArg x
@[simp] theorem clean_UArg (x : DArg) : cleanl (rUArg x) = true := by simp [rUArg]
@[simp] theorem cleanm_UArg (l : List (DArg)) : cleanr (l.map rUArg) = true := by rw [cleanr_iff]; simp
@[simp] theorem cell_UArg (x : DArg) : (rUArg x).all isCell = true := by simp [rUArg]
@[simp] theorem cell_AArg (x : DArg) : (rAArg x).all isCell = true := by simp [rAArg]
@[simp] theorem len_UArg (x : DArg) : (rUArg x).length = 3 := by simp [rUArg]
@[simp] theorem len_AArg (x : DArg) : (rAArg x).length = 3 := by simp [rAArg]
@[simp] theorem bw_AArg (x : DArg) (h : Heap) : bwl (rAArg x) h = some (rAArg x) := by simp [rAArg]
@[simp] theorem gAArg0 (x : DArg) : (rAArg x)[0]? = some (.bool x.Lst) := rfl
@[simp] theorem eAArg0 (x : DArg) (h : 0 < (rAArg x).length) : (rAArg x)[0] = .bool x.Lst := rfl
@[simp] theorem gAArg1 (x : DArg) : (rAArg x)[1]? = some (.sl 2 (x.Heads.map rASum)) := rfl
@[simp] theorem eAArg1 (x : DArg) (h : 1 < (rAArg x).length) : (rAArg x)[1] = .sl 2 (x.Heads.map rASum) := rfl
@[simp] theorem gAArg2 (x : DArg) : (rAArg x)[2]? = some (.str x.Base) := rfl
@[simp] theorem eAArg2 (x : DArg) (h : 2 < (rAArg x).length) : (rAArg x)[2] = .str x.Base := rfl
@[simp] theorem tAArg (x : DArg) : List.take 3 (rAArg x) = rAArg x := rfl
@[simp] theorem gUArg0 (x : DArg) : (rUArg x)[0]? = some (.bool x.Lst) := rfl
@[simp] theorem eUArg0 (x : DArg) (h : 0 < (rUArg x).length) : (rUArg x)[0] = .bool x.Lst := rfl
@[simp] theorem gUArg1 (x : DArg) : (rUArg x)[1]? = some (.us 2 (x.Heads.map rUSum)) := rfl
@[simp] theorem eUArg1 (x : DArg) (h : 1 < (rUArg x).length) : (rUArg x)[1] = .us 2 (x.Heads.map rUSum) := rfl
@[simp] theorem gUArg2 (x : DArg) : (rUArg x)[2]? = some (.str x.Base) := rfl
@[simp] theorem eUArg2 (x : DArg) (h : 2 < (rUArg x).length) : (rUArg x)[2] = .str x.Base := rfl
@[simp] theorem tUArg (x : DArg) : List.take 3 (rUArg x) = rUArg x := rfl

def wArg (x : DArg) : Nat := wSumS x.Heads + x.Base.length
def wArgS (l : List DArg) : Nat := wL wArg l
def rAArgS (l : List DArg) : List AV := [.sl 3 (l.map rAArg)]
def rUArgS (l : List DArg) : List AV := [.us 3 (l.map rUArg)]
@[simp] theorem drl_UArgS (x : List DArg) : drl (rUArgS x) = rAArgS x := by simp [rUArgS, rAArgS]
@[simp] theorem drrm_UArgS (l : List (List DArg)) : drr (l.map rUArgS) = l.map rAArgS := by rw [drr_eq, List.map_map]; exact List.map_congr_left fun x _ => drl_UArgS x
@[simp] theorem clean_UArgS (x : List DArg) : cleanl (rUArgS x) = true := by simp [rUArgS]
@[simp] theorem cleanm_UArgS (l : List (List DArg)) : cleanr (l.map rUArgS) = true := by rw [cleanr_iff]; simp
@[simp] theorem cell_UArgS (x : List DArg) : (rUArgS x).all isCell = true := by simp [rUArgS]
@[simp] theorem cell_AArgS (x : List DArg) : (rAArgS x).all isCell = true := by simp [rAArgS]
@[simp] theorem len_UArgS (x : List DArg) : (rUArgS x).length = 1 := by simp [rUArgS]
@[simp] theorem len_AArgS (x : List DArg) : (rAArgS x).length = 1 := by simp [rAArgS]
@[simp] theorem bw_AArgS (x : List DArg) (h : Heap) : bwl (rAArgS x) h = some (rAArgS x) := by simp [rAArgS]

structure DFunction where
  Name : Str
  Params : List Str
  ListResult : Bool
  Pre : List DLin
deriving DecidableEq
def rAFunction (x : DFunction) : List AV := [.str x.Name, .sl 1 (strsR x.Params), .bool x.ListResult, .sl 2 (x.Pre.map rALin)]
def rUFunction (x : DFunction) : List AV := [.str x.Name, .us 1 (strsR x.Params), .bool x.ListResult, .us 2 (x.Pre.map rULin)]
@[simp] theorem drl_UFunction (x : DFunction) : drl (rUFunction x) = rAFunction x := by simp [rUFunction, rAFunction]
@[simp] theorem drrm_UFunction (l : List (DFunction)) : drr (l.map rUFunction) = l.map rAFunction := by rw [drr_eq, List.map_map]; exact List.map_congr_left fun x _ => drl_UFunction x
@[simp] theorem clean_UFunction (x : DFunction) : cleanl (rUFunction x) = true := by simp [rUFunction]
@[simp] theorem cleanm_UFunction (l : List (DFunction)) : cleanr (l.map rUFunction) = true := by rw [cleanr_iff]; simp
@[simp] theorem cell_UFunction (x : DFunction) : (rUFunction x).all isCell = true := by simp [rUFunction]
@[simp] theorem cell_AFunction (x : DFunction) : (rAFunction x).all isCell = true := by simp [rAFunction]
@[simp] theorem len_UFunction (x : DFunction) : (rUFunction x).length = 4 := by simp [rUFunction]
@[simp] theorem len_AFunction (x : DFunction) : (rAFunction x).length = 4 := by simp [rAFunction]
@[simp] theorem bw_AFunction (x : DFunction) (h : Heap) : bwl (rAFunction x) h = some (rAFunction x) := by simp [rAFunction]
@[simp] theorem gAFunction0 (x : DFunction) : (rAFunction x)[0]? = some (.str x.Name) := rfl
@[simp] theorem eAFunction0 (x : DFunction) (h : 0 < (rAFunction x).length) : (rAFunction x)[0] = .str x.Name := rfl
@[simp] theorem gAFunction1 (x : DFunction) : (rAFunction x)[1]? = some (.sl 1 (strsR x.Params)) := rfl
@[simp] theorem eAFunction1 (x : DFunction) (h : 1 < (rAFunction x).length) : (rAFunction x)[1] = .sl 1 (strsR x.Params) := rfl
@[simp] theorem gAFunction2 (x : DFunction) : (rAFunction x)[2]? = some (.bool x.ListResult) := rfl
@[simp] theorem eAFunction2 (x : DFunction) (h : 2 < (rAFunction x).length) : (rAFunction x)[2] = .bool x.ListResult := rfl
@[simp] theorem gAFunction3 (x : DFunction) : (rAFunction x)[3]? = some (.sl 2 (x.Pre.map rALin)) := rfl
@[simp] theorem eAFunction3 (x : DFunction) (h : 3 < (rAFunction x).length) : (rAFunction x)[3] = .sl 2 (x.Pre.map rALin) := rfl
@[simp] theorem tAFunction (x : DFunction) : List.take 4 (rAFunction x) = rAFunction x := rfl
@[simp] theorem gUFunction0 (x : DFunction) : (rUFunction x)[0]? = some (.str x.Name) := rfl
@[simp] theorem eUFunction0 (x : DFunction) (h : 0 < (rUFunction x).length) : (rUFunction x)[0] = .str x.Name := rfl
@[simp] theorem gUFunction1 (x : DFunction) : (rUFunction x)[1]? = some (.us 1 (strsR x.Params)) := rfl
@[simp] theorem eUFunction1 (x : DFunction) (h : 1 < (rUFunction x).length) : (rUFunction x)[1] = .us 1 (strsR x.Params) := rfl
@[simp] theorem gUFunction2 (x : DFunction) : (rUFunction x)[2]? = some (.bool x.ListResult) := rfl
@[simp] theorem eUFunction2 (x : DFunction) (h : 2 < (rUFunction x).length) : (rUFunction x)[2] = .bool x.ListResult := rfl
@[simp] theorem gUFunction3 (x : DFunction) : (rUFunction x)[3]? = some (.us 2 (x.Pre.map rULin)) := rfl
@[simp] theorem eUFunction3 (x : DFunction) (h : 3 < (rUFunction x).length) : (rUFunction x)[3] = .us 2 (x.Pre.map rULin) := rfl
@[simp] theorem tUFunction (x : DFunction) : List.take 4 (rUFunction x) = rUFunction x := rfl

def wStringS (l : List Str) : Nat := wL List.length l
def wFunction (x : DFunction) : Nat := x.Name.length + wStringS x.Params + wLinS x.Pre
def wFunctionS (l : List DFunction) : Nat := wL wFunction l
def rAFunctionS (l : List DFunction) : List AV := [.sl 4 (l.map rAFunction)]
def rUFunctionS (l : List DFunction) : List AV := [.us 4 (l.map rUFunction)]
@[simp] theorem drl_UFunctionS (x : List DFunction) : drl (rUFunctionS x) = rAFunctionS x := by simp [rUFunctionS, rAFunctionS]
@[simp] theorem drrm_UFunctionS (l : List (List DFunction)) : drr (l.map rUFunctionS) = l.map rAFunctionS := by rw [drr_eq, List.map_map]; exact List.map_congr_left fun x _ => drl_UFunctionS x
@[simp] theorem clean_UFunctionS (x : List DFunction) : cleanl (rUFunctionS x) = true := by simp [rUFunctionS]
@[simp] theorem cleanm_UFunctionS (l : List (List DFunction)) : cleanr (l.map rUFunctionS) = true := by rw [cleanr_iff]; simp
@[simp] theorem cell_UFunctionS (x : List DFunction) : (rUFunctionS x).all isCell = true := by simp [rUFunctionS]
@[simp] theorem cell_AFunctionS (x : List DFunction) : (rAFunctionS x).all isCell = true := by simp [rAFunctionS]
@[simp] theorem len_UFunctionS (x : List DFunction) : (rUFunctionS x).length = 1 := by simp [rUFunctionS]
@[simp] theorem len_AFunctionS (x : List DFunction) : (rAFunctionS x).length = 1 := by simp [rAFunctionS]
@[simp] theorem bw_AFunctionS (x : List DFunction) (h : Heap) : bwl (rAFunctionS x) h = some (rAFunctionS x) := by simp [rAFunctionS]

structure DPattern where
  Lst : Str
  Cons : Bool
  Head : Str
  Tail : Str
deriving DecidableEq
def rAPattern (x : DPattern) : List AV := [.str x.Lst, .bool x.Cons, .str x.Head, .str x.Tail]
def rUPattern (x : DPattern) : List AV := [.str x.Lst, .bool x.Cons, .str x.Head, .str x.Tail]
@[simp] theorem drl_UPattern (x : DPattern) : drl (rUPattern x) = rAPattern x := by simp [rUPattern, rAPattern]
@[simp] theorem drrm_UPattern (l : List (DPattern)) : drr (l.map rUPattern) = l.map rAPattern := by rw [drr_eq, List.map_map]; exact List.map_congr_left fun x _ => drl_UPattern x
@[simp] theorem clean_UPattern (x : DPattern) : cleanl (rUPattern x) = true := by simp [rUPattern]
@[simp] theorem cleanm_UPattern (l : List (DPattern)) : cleanr (l.map rUPattern) = true := by rw [cleanr_iff]; simp
@[simp] theorem cell_UPattern (x : DPattern) : (rUPattern x).all isCell = true := by simp [rUPattern]
@[simp] theorem cell_APattern (x : DPattern) : (rAPattern x).all isCell = true := by simp [rAPattern]
@[simp] theorem len_UPattern (x : DPattern) : (rUPattern x).length = 4 := by simp [rUPattern]
@[simp] theorem len_APattern (x : DPattern) : (rAPattern x).length = 4 := by simp [rAPattern]
@[simp] theorem bw_APattern (x : DPattern) (h : Heap) : bwl (rAPattern x) h = some (rAPattern x) := by simp [rAPattern]
@[simp] theorem gAPattern0 (x : DPattern) : (rAPattern x)[0]? = some (.str x.Lst) := rfl
@[simp] theorem eAPattern0 (x : DPattern) (h : 0 < (rAPattern x).length) : (rAPattern x)[0] = .str x.Lst := rfl
@[simp] theorem gAPattern1 (x : DPattern) : (rAPattern x)[1]? = some (.bool x.Cons) := rfl
@[simp] theorem eAPattern1 (x : DPattern) (h : 1 < (rAPattern x).length) : (rAPattern x)[1] = .bool x.Cons := rfl
@[simp] theorem gAPattern2 (x : DPattern) : (rAPattern x)[2]? = some (.str x.Head) := rfl
@[simp] theorem eAPattern2 (x : DPattern) (h : 2 < (rAPattern x).length) : (rAPattern x)[2] = .str x.Head := rfl
@[simp] theorem gAPattern3 (x : DPattern) : (rAPattern x)[3]? = some (.str x.Tail) := rfl
@[simp] theorem eAPattern3 (x : DPattern) (h : 3 < (rAPattern x).length) : (rAPattern x)[3] = .str x.Tail := rfl
@[simp] theorem tAPattern (x : DPattern) : List.take 4 (rAPattern x) = rAPattern x := rfl
@[simp] theorem gUPattern0 (x : DPattern) : (rUPattern x)[0]? = some (.str x.Lst) := rfl
@[simp] theorem eUPattern0 (x : DPattern) (h : 0 < (rUPattern x).length) : (rUPattern x)[0] = .str x.Lst := rfl
@[simp] theorem gUPattern1 (x : DPattern) : (rUPattern x)[1]? = some (.bool x.Cons) := rfl
@[simp] theorem eUPattern1 (x : DPattern) (h : 1 < (rUPattern x).length) : (rUPattern x)[1] = .bool x.Cons := rfl
@[simp] theorem gUPattern2 (x : DPattern) : (rUPattern x)[2]? = some (.str x.Head) := rfl
@[simp] theorem eUPattern2 (x : DPattern) (h : 2 < (rUPattern x).length) : (rUPattern x)[2] = .str x.Head := rfl
@[simp] theorem gUPattern3 (x : DPattern) : (rUPattern x)[3]? = some (.str x.Tail) := rfl
@[simp] theorem eUPattern3 (x : DPattern) (h : 3 < (rUPattern x).length) : (rUPattern x)[3] = .str x.Tail := rfl
@[simp] theorem tUPattern (x : DPattern) : List.take 4 (rUPattern x) = rUPattern x := rfl

def wPattern (x : DPattern) : Nat := x.Lst.length + x.Head.length + x.Tail.length
def wPatternS (l : List DPattern) : Nat := wL wPattern l
def rAPatternS (l : List DPattern) : List AV := [.sl 4 (l.map rAPattern)]
def rUPatternS (l : List DPattern) : List AV := [.us 4 (l.map rUPattern)]
@[simp] theorem drl_UPatternS (x : List DPattern) : drl (rUPatternS x) = rAPatternS x := by simp [rUPatternS, rAPatternS]
@[simp] theorem drrm_UPatternS (l : List (List DPattern)) : drr (l.map rUPatternS) = l.map rAPatternS := by rw [drr_eq, List.map_map]; exact List.map_congr_left fun x _ => drl_UPatternS x
@[simp] theorem clean_UPatternS (x : List DPattern) : cleanl (rUPatternS x) = true := by simp [rUPatternS]
@[simp] theorem cleanm_UPatternS (l : List (List DPattern)) : cleanr (l.map rUPatternS) = true := by rw [cleanr_iff]; simp
@[simp] theorem cell_UPatternS (x : List DPattern) : (rUPatternS x).all isCell = true := by simp [rUPatternS]
@[simp] theorem cell_APatternS (x : List DPattern) : (rAPatternS x).all isCell = true := by simp [rAPatternS]
@[simp] theorem len_UPatternS (x : List DPattern) : (rUPatternS x).length = 1 := by simp [rUPatternS]
@[simp] theorem len_APatternS (x : List DPattern) : (rAPatternS x).length = 1 := by simp [rAPatternS]
@[simp] theorem bw_APatternS (x : List DPattern) (h : Heap) : bwl (rAPatternS x) h = some (rAPatternS x) := by simp [rAPatternS]

structure DCall where
  Bind : Str
  Func : Str
  Args : List DArg
deriving DecidableEq
def rACall (x : DCall) : List AV := [.str x.Bind, .str x.Func, .sl 3 (x.Args.map rAArg)]
def rUCall (x : DCall) : List AV := [.str x.Bind, .str x.Func, .us 3 (x.Args.map rUArg)]
@[simp] theorem drl_UCall (x : DCall) : drl (rUCall x) = rACall x := by simp [rUCall, rACall]
@[simp] theorem drrm_UCall (l : List (DCall)) : drr (l.map rUCall) = l.map rACall := by rw [drr_eq, List.map_map]; exact List.map_congr_left fun x _ => drl_UCall x
@[simp] theorem clean_UCall (x : DCall) : cleanl (rUCall x) = true := by simp [rUCall]
@[simp] theorem cleanm_UCall (l : List (DCall)) : cleanr (l.map rUCall) = true := by rw [cleanr_iff]; simp
@[simp] theorem cell_UCall (x : DCall) : (rUCall x).all isCell = true := by simp [rUCall]
@[simp] theorem cell_ACall (x : DCall) : (rACall x).all isCell = true := by simp [rACall]
@[simp] theorem len_UCall (x : DCall) : (rUCall x).length = 3 := by simp [rUCall]
@[simp] theorem len_ACall (x : DCall) : (rACall x).length = 3 := by simp [rACall]
@[simp] theorem bw_ACall (x : DCall) (h : Heap) : bwl (rACall x) h = some (rACall x) := by simp [rACall]
@[simp] theorem gACall0 (x : DCall) : (rACall x)[0]? = some (.str x.Bind) := rfl
@[simp] theorem eACall0 (x : DCall) (h : 0 < (rACall x).length) : (rACall x)[0] = .str x.Bind := rfl
@[simp] theorem gACall1 (x : DCall) : (rACall x)[1]? = some (.str x.Func) := rfl
@[simp] theorem eACall1 (x : DCall) (h : 1 < (rACall x).length) : (rACall x)[1] = .str x.Func := rfl
@[simp] theorem gACall2 (x : DCall) : (rACall x)[2]? = some (.sl 3 (x.Args.map rAArg)) := rfl
@[simp] theorem eACall2 (x : DCall) (h : 2 < (rACall x).length) : (rACall x)[2] = .sl 3 (x.Args.map rAArg) := rfl
@[simp] theorem tACall (x : DCall) : List.take 3 (rACall x) = rACall x := rfl
@[simp] theorem gUCall0 (x : DCall) : (rUCall x)[0]? = some (.str x.Bind) := rfl
@[simp] theorem eUCall0 (x : DCall) (h : 0 < (rUCall x).length) : (rUCall x)[0] = .str x.Bind := rfl
@[simp] theorem gUCall1 (x : DCall) : (rUCall x)[1]? = some (.str x.Func) := rfl
@[simp] theorem eUCall1 (x : DCall) (h : 1 < (rUCall x).length) : (rUCall x)[1] = .str x.Func := rfl
@[simp] theorem gUCall2 (x : DCall) : (rUCall x)[2]? = some (.us 3 (x.Args.map rUArg)) := rfl
@[simp] theorem eUCall2 (x : DCall) (h : 2 < (rUCall x).length) : (rUCall x)[2] = .us 3 (x.Args.map rUArg) := rfl
@[simp] theorem tUCall (x : DCall) : List.take 3 (rUCall x) = rUCall x := rfl

def wCall (x : DCall) : Nat := x.Bind.length + x.Func.length + wArgS x.Args
def wCallS (l : List DCall) : Nat := wL wCall l
def rACallS (l : List DCall) : List AV := [.sl 3 (l.map rACall)]
def rUCallS (l : List DCall) : List AV := [.us 3 (l.map rUCall)]
@[simp] theorem drl_UCallS (x : List DCall) : drl (rUCallS x) = rACallS x := by simp [rUCallS, rACallS]
@[simp] theorem drrm_UCallS (l : List (List DCall)) : drr (l.map rUCallS) = l.map rACallS := by rw [drr_eq, List.map_map]; exact List.map_congr_left fun x _ => drl_UCallS x
@[simp] theorem clean_UCallS (x : List DCall) : cleanl (rUCallS x) = true := by simp [rUCallS]
@[simp] theorem cleanm_UCallS (l : List (List DCall)) : cleanr (l.map rUCallS) = true := by rw [cleanr_iff]; simp
@[simp] theorem cell_UCallS (x : List DCall) : (rUCallS x).all isCell = true := by simp [rUCallS]
@[simp] theorem cell_ACallS (x : List DCall) : (rACallS x).all isCell = true := by simp [rACallS]
@[simp] theorem len_UCallS (x : List DCall) : (rUCallS x).length = 1 := by simp [rUCallS]
@[simp] theorem len_ACallS (x : List DCall) : (rACallS x).length = 1 := by simp [rACallS]
@[simp] theorem bw_ACallS (x : List DCall) (h : Heap) : bwl (rACallS x) h = some (rACallS x) := by simp [rACallS]

structure DRule where
  Func : Str
  Patterns : List DPattern
  Guards : List DSum
  Calls : List DCall
  Result : DArg
deriving DecidableEq
def rARule (x : DRule) : List AV := [.str x.Func, .sl 4 (x.Patterns.map rAPattern), .sl 2 (x.Guards.map rASum), .sl 3 (x.Calls.map rACall), .bool x.Result.Lst, .sl 2 (x.Result.Heads.map rASum), .str x.Result.Base]
def rURule (x : DRule) : List AV := [.str x.Func, .us 4 (x.Patterns.map rUPattern), .us 2 (x.Guards.map rUSum), .us 3 (x.Calls.map rUCall), .bool x.Result.Lst, .us 2 (x.Result.Heads.map rUSum), .str x.Result.Base]
@[simp] theorem drl_URule (x : DRule) : drl (rURule x) = rARule x := by simp [rURule, rARule]
@[simp] theorem drrm_URule (l : List (DRule)) : drr (l.map rURule) = l.map rARule := by rw [drr_eq, List.map_map]; exact List.map_congr_left fun x _ => drl_URule x
@[simp] theorem clean_URule (x : DRule) : cleanl (rURule x) = true := by simp [rURule]
@[simp] theorem cleanm_URule (l : List (DRule)) : cleanr (l.map rURule) = true := by rw [cleanr_iff]; simp
@[simp] theorem cell_URule (x : DRule) : (rURule x).all isCell = true := by simp [rURule]
@[simp] theorem cell_ARule (x : DRule) : (rARule x).all isCell = true := by simp [rARule]
@[simp] theorem len_URule (x : DRule) : (rURule x).length = 7 := by simp [rURule]
@[simp] theorem len_ARule (x : DRule) : (rARule x).length = 7 := by simp [rARule]
@[simp] theorem bw_ARule (x : DRule) (h : Heap) : bwl (rARule x) h = some (rARule x) := by simp [rARule]
@[simp] theorem gARule0 (x : DRule) : (rARule x)[0]? = some (.str x.Func) := rfl
@[simp] theorem eARule0 (x : DRule) (h : 0 < (rARule x).length) : (rARule x)[0] = .str x.Func := rfl
@[simp] theorem gARule1 (x : DRule) : (rARule x)[1]? = some (.sl 4 (x.Patterns.map rAPattern)) := rfl
@[simp] theorem eARule1 (x : DRule) (h : 1 < (rARule x).length) : (rARule x)[1] = .sl 4 (x.Patterns.map rAPattern) := rfl
@[simp] theorem gARule2 (x : DRule) : (rARule x)[2]? = some (.sl 2 (x.Guards.map rASum)) := rfl
@[simp] theorem eARule2 (x : DRule) (h : 2 < (rARule x).length) : (rARule x)[2] = .sl 2 (x.Guards.map rASum) := rfl
@[simp] theorem gARule3 (x : DRule) : (rARule x)[3]? = some (.sl 3 (x.Calls.map rACall)) := rfl
@[simp] theorem eARule3 (x : DRule) (h : 3 < (rARule x).length) : (rARule x)[3] = .sl 3 (x.Calls.map rACall) := rfl
@[simp] theorem gARule4 (x : DRule) : (rARule x)[4]? = some (.bool x.Result.Lst) := rfl
@[simp] theorem eARule4 (x : DRule) (h : 4 < (rARule x).length) : (rARule x)[4] = .bool x.Result.Lst := rfl
@[simp] theorem gARule5 (x : DRule) : (rARule x)[5]? = some (.sl 2 (x.Result.Heads.map rASum)) := rfl
@[simp] theorem eARule5 (x : DRule) (h : 5 < (rARule x).length) : (rARule x)[5] = .sl 2 (x.Result.Heads.map rASum) := rfl
@[simp] theorem gARule6 (x : DRule) : (rARule x)[6]? = some (.str x.Result.Base) := rfl
@[simp] theorem eARule6 (x : DRule) (h : 6 < (rARule x).length) : (rARule x)[6] = .str x.Result.Base := rfl
@[simp] theorem tARule (x : DRule) : List.take 7 (rARule x) = rARule x := rfl
@[simp] theorem tARule_Result (x : DRule) : List.take 3 (List.drop 4 (rARule x)) = rAArg x.Result := rfl
@[simp] theorem gURule0 (x : DRule) : (rURule x)[0]? = some (.str x.Func) := rfl
@[simp] theorem eURule0 (x : DRule) (h : 0 < (rURule x).length) : (rURule x)[0] = .str x.Func := rfl
@[simp] theorem gURule1 (x : DRule) : (rURule x)[1]? = some (.us 4 (x.Patterns.map rUPattern)) := rfl
@[simp] theorem eURule1 (x : DRule) (h : 1 < (rURule x).length) : (rURule x)[1] = .us 4 (x.Patterns.map rUPattern) := rfl
@[simp] theorem gURule2 (x : DRule) : (rURule x)[2]? = some (.us 2 (x.Guards.map rUSum)) := rfl
@[simp] theorem eURule2 (x : DRule) (h : 2 < (rURule x).length) : (rURule x)[2] = .us 2 (x.Guards.map rUSum) := rfl
@[simp] theorem gURule3 (x : DRule) : (rURule x)[3]? = some (.us 3 (x.Calls.map rUCall)) := rfl
@[simp] theorem eURule3 (x : DRule) (h : 3 < (rURule x).length) : (rURule x)[3] = .us 3 (x.Calls.map rUCall) := rfl
@[simp] theorem gURule4 (x : DRule) : (rURule x)[4]? = some (.bool x.Result.Lst) := rfl
@[simp] theorem eURule4 (x : DRule) (h : 4 < (rURule x).length) : (rURule x)[4] = .bool x.Result.Lst := rfl
@[simp] theorem gURule5 (x : DRule) : (rURule x)[5]? = some (.us 2 (x.Result.Heads.map rUSum)) := rfl
@[simp] theorem eURule5 (x : DRule) (h : 5 < (rURule x).length) : (rURule x)[5] = .us 2 (x.Result.Heads.map rUSum) := rfl
@[simp] theorem gURule6 (x : DRule) : (rURule x)[6]? = some (.str x.Result.Base) := rfl
@[simp] theorem eURule6 (x : DRule) (h : 6 < (rURule x).length) : (rURule x)[6] = .str x.Result.Base := rfl
@[simp] theorem tURule (x : DRule) : List.take 7 (rURule x) = rURule x := rfl
@[simp] theorem tURule_Result (x : DRule) : List.take 3 (List.drop 4 (rURule x)) = rUArg x.Result := rfl

def wRule (x : DRule) : Nat := x.Func.length + wPatternS x.Patterns + wSumS x.Guards + wCallS x.Calls + wArg x.Result
def wRuleS (l : List DRule) : Nat := wL wRule l
def rARuleS (l : List DRule) : List AV := [.sl 7 (l.map rARule)]
def rURuleS (l : List DRule) : List AV := [.us 7 (l.map rURule)]
@[simp] theorem drl_URuleS (x : List DRule) : drl (rURuleS x) = rARuleS x := by simp [rURuleS, rARuleS]
@[simp] theorem drrm_URuleS (l : List (List DRule)) : drr (l.map rURuleS) = l.map rARuleS := by rw [drr_eq, List.map_map]; exact List.map_congr_left fun x _ => drl_URuleS x
@[simp] theorem clean_URuleS (x : List DRule) : cleanl (rURuleS x) = true := by simp [rURuleS]
@[simp] theorem cleanm_URuleS (l : List (List DRule)) : cleanr (l.map rURuleS) = true := by rw [cleanr_iff]; simp
@[simp] theorem cell_URuleS (x : List DRule) : (rURuleS x).all isCell = true := by simp [rURuleS]
@[simp] theorem cell_ARuleS (x : List DRule) : (rARuleS x).all isCell = true := by simp [rARuleS]
@[simp] theorem len_URuleS (x : List DRule) : (rURuleS x).length = 1 := by simp [rURuleS]
@[simp] theorem len_ARuleS (x : List DRule) : (rARuleS x).length = 1 := by simp [rARuleS]
@[simp] theorem bw_ARuleS (x : List DRule) (h : Heap) : bwl (rARuleS x) h = some (rARuleS x) := by simp [rARuleS]

structure DProgram where
  Functions : List DFunction
  Rules : List DRule
deriving DecidableEq
def rAProgram (x : DProgram) : List AV := [.sl 4 (x.Functions.map rAFunction), .sl 7 (x.Rules.map rARule)]
def rUProgram (x : DProgram) : List AV := [.us 4 (x.Functions.map rUFunction), .us 7 (x.Rules.map rURule)]
@[simp] theorem drl_UProgram (x : DProgram) : drl (rUProgram x) = rAProgram x := by simp [rUProgram, rAProgram]
@[simp] theorem drrm_UProgram (l : List (DProgram)) : drr (l.map rUProgram) = l.map rAProgram := by rw [drr_eq, List.map_map]; exact List.map_congr_left fun x _ => drl_UProgram x
@[simp] theorem clean_UProgram (x : DProgram) : cleanl (rUProgram x) = true := by simp [rUProgram]
@[simp] theorem cleanm_UProgram (l : List (DProgram)) : cleanr (l.map rUProgram) = true := by rw [cleanr_iff]; simp
@[simp] theorem cell_UProgram (x : DProgram) : (rUProgram x).all isCell = true := by simp [rUProgram]
@[simp] theorem cell_AProgram (x : DProgram) : (rAProgram x).all isCell = true := by simp [rAProgram]
@[simp] theorem len_UProgram (x : DProgram) : (rUProgram x).length = 2 := by simp [rUProgram]
@[simp] theorem len_AProgram (x : DProgram) : (rAProgram x).length = 2 := by simp [rAProgram]
@[simp] theorem bw_AProgram (x : DProgram) (h : Heap) : bwl (rAProgram x) h = some (rAProgram x) := by simp [rAProgram]
@[simp] theorem gAProgram0 (x : DProgram) : (rAProgram x)[0]? = some (.sl 4 (x.Functions.map rAFunction)) := rfl
@[simp] theorem eAProgram0 (x : DProgram) (h : 0 < (rAProgram x).length) : (rAProgram x)[0] = .sl 4 (x.Functions.map rAFunction) := rfl
@[simp] theorem gAProgram1 (x : DProgram) : (rAProgram x)[1]? = some (.sl 7 (x.Rules.map rARule)) := rfl
@[simp] theorem eAProgram1 (x : DProgram) (h : 1 < (rAProgram x).length) : (rAProgram x)[1] = .sl 7 (x.Rules.map rARule) := rfl
@[simp] theorem tAProgram (x : DProgram) : List.take 2 (rAProgram x) = rAProgram x := rfl
@[simp] theorem gUProgram0 (x : DProgram) : (rUProgram x)[0]? = some (.us 4 (x.Functions.map rUFunction)) := rfl
@[simp] theorem eUProgram0 (x : DProgram) (h : 0 < (rUProgram x).length) : (rUProgram x)[0] = .us 4 (x.Functions.map rUFunction) := rfl
@[simp] theorem gUProgram1 (x : DProgram) : (rUProgram x)[1]? = some (.us 7 (x.Rules.map rURule)) := rfl
@[simp] theorem eUProgram1 (x : DProgram) (h : 1 < (rUProgram x).length) : (rUProgram x)[1] = .us 7 (x.Rules.map rURule) := rfl
@[simp] theorem tUProgram (x : DProgram) : List.take 2 (rUProgram x) = rUProgram x := rfl

def wProgram (x : DProgram) : Nat := wFunctionS x.Functions + wRuleS x.Rules
def wProgramS (l : List DProgram) : Nat := wL wProgram l
def rAProgramS (l : List DProgram) : List AV := [.sl 2 (l.map rAProgram)]
def rUProgramS (l : List DProgram) : List AV := [.us 2 (l.map rUProgram)]
@[simp] theorem drl_UProgramS (x : List DProgram) : drl (rUProgramS x) = rAProgramS x := by simp [rUProgramS, rAProgramS]
@[simp] theorem drrm_UProgramS (l : List (List DProgram)) : drr (l.map rUProgramS) = l.map rAProgramS := by rw [drr_eq, List.map_map]; exact List.map_congr_left fun x _ => drl_UProgramS x
@[simp] theorem clean_UProgramS (x : List DProgram) : cleanl (rUProgramS x) = true := by simp [rUProgramS]
@[simp] theorem cleanm_UProgramS (l : List (List DProgram)) : cleanr (l.map rUProgramS) = true := by rw [cleanr_iff]; simp
@[simp] theorem cell_UProgramS (x : List DProgram) : (rUProgramS x).all isCell = true := by simp [rUProgramS]
@[simp] theorem cell_AProgramS (x : List DProgram) : (rAProgramS x).all isCell = true := by simp [rAProgramS]
@[simp] theorem len_UProgramS (x : List DProgram) : (rUProgramS x).length = 1 := by simp [rUProgramS]
@[simp] theorem len_AProgramS (x : List DProgram) : (rAProgramS x).length = 1 := by simp [rAProgramS]
@[simp] theorem bw_AProgramS (x : List DProgram) (h : Heap) : bwl (rAProgramS x) h = some (rAProgramS x) := by simp [rAProgramS]

structure DValue where
  Lst : Bool
  N : Int
  Items : List Int
deriving DecidableEq
def rAValue (x : DValue) : List AV := [.bool x.Lst, i64 x.N, .sl 1 (intsR x.Items)]
def rUValue (x : DValue) : List AV := [.bool x.Lst, i64 x.N, .us 1 (intsR x.Items)]
@[simp] theorem drl_UValue (x : DValue) : drl (rUValue x) = rAValue x := by simp [rUValue, rAValue]
@[simp] theorem drrm_UValue (l : List (DValue)) : drr (l.map rUValue) = l.map rAValue := by rw [drr_eq, List.map_map]; exact List.map_congr_left fun x _ => drl_UValue x
@[simp] theorem clean_UValue (x : DValue) : cleanl (rUValue x) = true := by simp [rUValue]
@[simp] theorem cleanm_UValue (l : List (DValue)) : cleanr (l.map rUValue) = true := by rw [cleanr_iff]; simp
@[simp] theorem cell_UValue (x : DValue) : (rUValue x).all isCell = true := by simp [rUValue]
@[simp] theorem cell_AValue (x : DValue) : (rAValue x).all isCell = true := by simp [rAValue]
@[simp] theorem len_UValue (x : DValue) : (rUValue x).length = 3 := by simp [rUValue]
@[simp] theorem len_AValue (x : DValue) : (rAValue x).length = 3 := by simp [rAValue]
@[simp] theorem bw_AValue (x : DValue) (h : Heap) : bwl (rAValue x) h = some (rAValue x) := by simp [rAValue]
@[simp] theorem gAValue0 (x : DValue) : (rAValue x)[0]? = some (.bool x.Lst) := rfl
@[simp] theorem eAValue0 (x : DValue) (h : 0 < (rAValue x).length) : (rAValue x)[0] = .bool x.Lst := rfl
@[simp] theorem gAValue1 (x : DValue) : (rAValue x)[1]? = some (i64 x.N) := rfl
@[simp] theorem eAValue1 (x : DValue) (h : 1 < (rAValue x).length) : (rAValue x)[1] = i64 x.N := rfl
@[simp] theorem gAValue2 (x : DValue) : (rAValue x)[2]? = some (.sl 1 (intsR x.Items)) := rfl
@[simp] theorem eAValue2 (x : DValue) (h : 2 < (rAValue x).length) : (rAValue x)[2] = .sl 1 (intsR x.Items) := rfl
@[simp] theorem tAValue (x : DValue) : List.take 3 (rAValue x) = rAValue x := rfl
@[simp] theorem gUValue0 (x : DValue) : (rUValue x)[0]? = some (.bool x.Lst) := rfl
@[simp] theorem eUValue0 (x : DValue) (h : 0 < (rUValue x).length) : (rUValue x)[0] = .bool x.Lst := rfl
@[simp] theorem gUValue1 (x : DValue) : (rUValue x)[1]? = some (i64 x.N) := rfl
@[simp] theorem eUValue1 (x : DValue) (h : 1 < (rUValue x).length) : (rUValue x)[1] = i64 x.N := rfl
@[simp] theorem gUValue2 (x : DValue) : (rUValue x)[2]? = some (.us 1 (intsR x.Items)) := rfl
@[simp] theorem eUValue2 (x : DValue) (h : 2 < (rUValue x).length) : (rUValue x)[2] = .us 1 (intsR x.Items) := rfl
@[simp] theorem tUValue (x : DValue) : List.take 3 (rUValue x) = rUValue x := rfl

def wValue (x : DValue) : Nat := wIntS x.Items
def wValueS (l : List DValue) : Nat := wL wValue l
def rAValueS (l : List DValue) : List AV := [.sl 3 (l.map rAValue)]
def rUValueS (l : List DValue) : List AV := [.us 3 (l.map rUValue)]
@[simp] theorem drl_UValueS (x : List DValue) : drl (rUValueS x) = rAValueS x := by simp [rUValueS, rAValueS]
@[simp] theorem drrm_UValueS (l : List (List DValue)) : drr (l.map rUValueS) = l.map rAValueS := by rw [drr_eq, List.map_map]; exact List.map_congr_left fun x _ => drl_UValueS x
@[simp] theorem clean_UValueS (x : List DValue) : cleanl (rUValueS x) = true := by simp [rUValueS]
@[simp] theorem cleanm_UValueS (l : List (List DValue)) : cleanr (l.map rUValueS) = true := by rw [cleanr_iff]; simp
@[simp] theorem cell_UValueS (x : List DValue) : (rUValueS x).all isCell = true := by simp [rUValueS]
@[simp] theorem cell_AValueS (x : List DValue) : (rAValueS x).all isCell = true := by simp [rAValueS]
@[simp] theorem len_UValueS (x : List DValue) : (rUValueS x).length = 1 := by simp [rUValueS]
@[simp] theorem len_AValueS (x : List DValue) : (rAValueS x).length = 1 := by simp [rAValueS]
@[simp] theorem bw_AValueS (x : List DValue) (h : Heap) : bwl (rAValueS x) h = some (rAValueS x) := by simp [rAValueS]

structure DOutcome where
  Status : Int
  Value : DValue
  Calls : Int
  Conses : Int
deriving DecidableEq
def rAOutcome (x : DOutcome) : List AV := [i64 x.Status, .bool x.Value.Lst, i64 x.Value.N, .sl 1 (intsR x.Value.Items), i64 x.Calls, i64 x.Conses]
def rUOutcome (x : DOutcome) : List AV := [i64 x.Status, .bool x.Value.Lst, i64 x.Value.N, .us 1 (intsR x.Value.Items), i64 x.Calls, i64 x.Conses]
@[simp] theorem drl_UOutcome (x : DOutcome) : drl (rUOutcome x) = rAOutcome x := by simp [rUOutcome, rAOutcome]
@[simp] theorem drrm_UOutcome (l : List (DOutcome)) : drr (l.map rUOutcome) = l.map rAOutcome := by rw [drr_eq, List.map_map]; exact List.map_congr_left fun x _ => drl_UOutcome x
@[simp] theorem clean_UOutcome (x : DOutcome) : cleanl (rUOutcome x) = true := by simp [rUOutcome]
@[simp] theorem cleanm_UOutcome (l : List (DOutcome)) : cleanr (l.map rUOutcome) = true := by rw [cleanr_iff]; simp
@[simp] theorem cell_UOutcome (x : DOutcome) : (rUOutcome x).all isCell = true := by simp [rUOutcome]
@[simp] theorem cell_AOutcome (x : DOutcome) : (rAOutcome x).all isCell = true := by simp [rAOutcome]
@[simp] theorem len_UOutcome (x : DOutcome) : (rUOutcome x).length = 6 := by simp [rUOutcome]
@[simp] theorem len_AOutcome (x : DOutcome) : (rAOutcome x).length = 6 := by simp [rAOutcome]
@[simp] theorem bw_AOutcome (x : DOutcome) (h : Heap) : bwl (rAOutcome x) h = some (rAOutcome x) := by simp [rAOutcome]
@[simp] theorem gAOutcome0 (x : DOutcome) : (rAOutcome x)[0]? = some (i64 x.Status) := rfl
@[simp] theorem eAOutcome0 (x : DOutcome) (h : 0 < (rAOutcome x).length) : (rAOutcome x)[0] = i64 x.Status := rfl
@[simp] theorem gAOutcome1 (x : DOutcome) : (rAOutcome x)[1]? = some (.bool x.Value.Lst) := rfl
@[simp] theorem eAOutcome1 (x : DOutcome) (h : 1 < (rAOutcome x).length) : (rAOutcome x)[1] = .bool x.Value.Lst := rfl
@[simp] theorem gAOutcome2 (x : DOutcome) : (rAOutcome x)[2]? = some (i64 x.Value.N) := rfl
@[simp] theorem eAOutcome2 (x : DOutcome) (h : 2 < (rAOutcome x).length) : (rAOutcome x)[2] = i64 x.Value.N := rfl
@[simp] theorem gAOutcome3 (x : DOutcome) : (rAOutcome x)[3]? = some (.sl 1 (intsR x.Value.Items)) := rfl
@[simp] theorem eAOutcome3 (x : DOutcome) (h : 3 < (rAOutcome x).length) : (rAOutcome x)[3] = .sl 1 (intsR x.Value.Items) := rfl
@[simp] theorem gAOutcome4 (x : DOutcome) : (rAOutcome x)[4]? = some (i64 x.Calls) := rfl
@[simp] theorem eAOutcome4 (x : DOutcome) (h : 4 < (rAOutcome x).length) : (rAOutcome x)[4] = i64 x.Calls := rfl
@[simp] theorem gAOutcome5 (x : DOutcome) : (rAOutcome x)[5]? = some (i64 x.Conses) := rfl
@[simp] theorem eAOutcome5 (x : DOutcome) (h : 5 < (rAOutcome x).length) : (rAOutcome x)[5] = i64 x.Conses := rfl
@[simp] theorem tAOutcome (x : DOutcome) : List.take 6 (rAOutcome x) = rAOutcome x := rfl
@[simp] theorem tAOutcome_Value (x : DOutcome) : List.take 3 (List.drop 1 (rAOutcome x)) = rAValue x.Value := rfl
@[simp] theorem gUOutcome0 (x : DOutcome) : (rUOutcome x)[0]? = some (i64 x.Status) := rfl
@[simp] theorem eUOutcome0 (x : DOutcome) (h : 0 < (rUOutcome x).length) : (rUOutcome x)[0] = i64 x.Status := rfl
@[simp] theorem gUOutcome1 (x : DOutcome) : (rUOutcome x)[1]? = some (.bool x.Value.Lst) := rfl
@[simp] theorem eUOutcome1 (x : DOutcome) (h : 1 < (rUOutcome x).length) : (rUOutcome x)[1] = .bool x.Value.Lst := rfl
@[simp] theorem gUOutcome2 (x : DOutcome) : (rUOutcome x)[2]? = some (i64 x.Value.N) := rfl
@[simp] theorem eUOutcome2 (x : DOutcome) (h : 2 < (rUOutcome x).length) : (rUOutcome x)[2] = i64 x.Value.N := rfl
@[simp] theorem gUOutcome3 (x : DOutcome) : (rUOutcome x)[3]? = some (.us 1 (intsR x.Value.Items)) := rfl
@[simp] theorem eUOutcome3 (x : DOutcome) (h : 3 < (rUOutcome x).length) : (rUOutcome x)[3] = .us 1 (intsR x.Value.Items) := rfl
@[simp] theorem gUOutcome4 (x : DOutcome) : (rUOutcome x)[4]? = some (i64 x.Calls) := rfl
@[simp] theorem eUOutcome4 (x : DOutcome) (h : 4 < (rUOutcome x).length) : (rUOutcome x)[4] = i64 x.Calls := rfl
@[simp] theorem gUOutcome5 (x : DOutcome) : (rUOutcome x)[5]? = some (i64 x.Conses) := rfl
@[simp] theorem eUOutcome5 (x : DOutcome) (h : 5 < (rUOutcome x).length) : (rUOutcome x)[5] = i64 x.Conses := rfl
@[simp] theorem tUOutcome (x : DOutcome) : List.take 6 (rUOutcome x) = rUOutcome x := rfl
@[simp] theorem tUOutcome_Value (x : DOutcome) : List.take 3 (List.drop 1 (rUOutcome x)) = rUValue x.Value := rfl

def wOutcome (x : DOutcome) : Nat := wValue x.Value
def wOutcomeS (l : List DOutcome) : Nat := wL wOutcome l
def rAOutcomeS (l : List DOutcome) : List AV := [.sl 6 (l.map rAOutcome)]
def rUOutcomeS (l : List DOutcome) : List AV := [.us 6 (l.map rUOutcome)]
@[simp] theorem drl_UOutcomeS (x : List DOutcome) : drl (rUOutcomeS x) = rAOutcomeS x := by simp [rUOutcomeS, rAOutcomeS]
@[simp] theorem drrm_UOutcomeS (l : List (List DOutcome)) : drr (l.map rUOutcomeS) = l.map rAOutcomeS := by rw [drr_eq, List.map_map]; exact List.map_congr_left fun x _ => drl_UOutcomeS x
@[simp] theorem clean_UOutcomeS (x : List DOutcome) : cleanl (rUOutcomeS x) = true := by simp [rUOutcomeS]
@[simp] theorem cleanm_UOutcomeS (l : List (List DOutcome)) : cleanr (l.map rUOutcomeS) = true := by rw [cleanr_iff]; simp
@[simp] theorem cell_UOutcomeS (x : List DOutcome) : (rUOutcomeS x).all isCell = true := by simp [rUOutcomeS]
@[simp] theorem cell_AOutcomeS (x : List DOutcome) : (rAOutcomeS x).all isCell = true := by simp [rAOutcomeS]
@[simp] theorem len_UOutcomeS (x : List DOutcome) : (rUOutcomeS x).length = 1 := by simp [rUOutcomeS]
@[simp] theorem len_AOutcomeS (x : List DOutcome) : (rAOutcomeS x).length = 1 := by simp [rAOutcomeS]
@[simp] theorem bw_AOutcomeS (x : List DOutcome) (h : Heap) : bwl (rAOutcomeS x) h = some (rAOutcomeS x) := by simp [rAOutcomeS]

structure DModel where
  System : DSystem
  Params : List DLin
  Args : List (List DLin)
  Result : DLin
deriving DecidableEq
def rAModel (x : DModel) : List AV := [i64 x.System.N, .sl 2 (x.System.Rows.map rALin), .sl 2 (x.Params.map rALin), .sl 1 (x.Args.map rALinS), i64 x.Result.Const, .sl 1 (intsR x.Result.Coeffs)]
def rUModel (x : DModel) : List AV := [i64 x.System.N, .us 2 (x.System.Rows.map rULin), .us 2 (x.Params.map rULin), .us 1 (x.Args.map rULinS), i64 x.Result.Const, .us 1 (intsR x.Result.Coeffs)]
@[simp] theorem drl_UModel (x : DModel) : drl (rUModel x) = rAModel x := by simp [rUModel, rAModel]
@[simp] theorem drrm_UModel (l : List (DModel)) : drr (l.map rUModel) = l.map rAModel := by rw [drr_eq, List.map_map]; exact List.map_congr_left fun x _ => drl_UModel x
@[simp] theorem clean_UModel (x : DModel) : cleanl (rUModel x) = true := by simp [rUModel]
@[simp] theorem cleanm_UModel (l : List (DModel)) : cleanr (l.map rUModel) = true := by rw [cleanr_iff]; simp
@[simp] theorem cell_UModel (x : DModel) : (rUModel x).all isCell = true := by simp [rUModel]
@[simp] theorem cell_AModel (x : DModel) : (rAModel x).all isCell = true := by simp [rAModel]
@[simp] theorem len_UModel (x : DModel) : (rUModel x).length = 6 := by simp [rUModel]
@[simp] theorem len_AModel (x : DModel) : (rAModel x).length = 6 := by simp [rAModel]
@[simp] theorem bw_AModel (x : DModel) (h : Heap) : bwl (rAModel x) h = some (rAModel x) := by simp [rAModel]
@[simp] theorem gAModel0 (x : DModel) : (rAModel x)[0]? = some (i64 x.System.N) := rfl
@[simp] theorem eAModel0 (x : DModel) (h : 0 < (rAModel x).length) : (rAModel x)[0] = i64 x.System.N := rfl
@[simp] theorem gAModel1 (x : DModel) : (rAModel x)[1]? = some (.sl 2 (x.System.Rows.map rALin)) := rfl
@[simp] theorem eAModel1 (x : DModel) (h : 1 < (rAModel x).length) : (rAModel x)[1] = .sl 2 (x.System.Rows.map rALin) := rfl
@[simp] theorem gAModel2 (x : DModel) : (rAModel x)[2]? = some (.sl 2 (x.Params.map rALin)) := rfl
@[simp] theorem eAModel2 (x : DModel) (h : 2 < (rAModel x).length) : (rAModel x)[2] = .sl 2 (x.Params.map rALin) := rfl
@[simp] theorem gAModel3 (x : DModel) : (rAModel x)[3]? = some (.sl 1 (x.Args.map rALinS)) := rfl
@[simp] theorem eAModel3 (x : DModel) (h : 3 < (rAModel x).length) : (rAModel x)[3] = .sl 1 (x.Args.map rALinS) := rfl
@[simp] theorem gAModel4 (x : DModel) : (rAModel x)[4]? = some (i64 x.Result.Const) := rfl
@[simp] theorem eAModel4 (x : DModel) (h : 4 < (rAModel x).length) : (rAModel x)[4] = i64 x.Result.Const := rfl
@[simp] theorem gAModel5 (x : DModel) : (rAModel x)[5]? = some (.sl 1 (intsR x.Result.Coeffs)) := rfl
@[simp] theorem eAModel5 (x : DModel) (h : 5 < (rAModel x).length) : (rAModel x)[5] = .sl 1 (intsR x.Result.Coeffs) := rfl
@[simp] theorem tAModel (x : DModel) : List.take 6 (rAModel x) = rAModel x := rfl
@[simp] theorem tAModel_System (x : DModel) : List.take 2 (rAModel x) = rASystem x.System := rfl
@[simp] theorem tAModel_Result (x : DModel) : List.take 2 (List.drop 4 (rAModel x)) = rALin x.Result := rfl
@[simp] theorem gUModel0 (x : DModel) : (rUModel x)[0]? = some (i64 x.System.N) := rfl
@[simp] theorem eUModel0 (x : DModel) (h : 0 < (rUModel x).length) : (rUModel x)[0] = i64 x.System.N := rfl
@[simp] theorem gUModel1 (x : DModel) : (rUModel x)[1]? = some (.us 2 (x.System.Rows.map rULin)) := rfl
@[simp] theorem eUModel1 (x : DModel) (h : 1 < (rUModel x).length) : (rUModel x)[1] = .us 2 (x.System.Rows.map rULin) := rfl
@[simp] theorem gUModel2 (x : DModel) : (rUModel x)[2]? = some (.us 2 (x.Params.map rULin)) := rfl
@[simp] theorem eUModel2 (x : DModel) (h : 2 < (rUModel x).length) : (rUModel x)[2] = .us 2 (x.Params.map rULin) := rfl
@[simp] theorem gUModel3 (x : DModel) : (rUModel x)[3]? = some (.us 1 (x.Args.map rULinS)) := rfl
@[simp] theorem eUModel3 (x : DModel) (h : 3 < (rUModel x).length) : (rUModel x)[3] = .us 1 (x.Args.map rULinS) := rfl
@[simp] theorem gUModel4 (x : DModel) : (rUModel x)[4]? = some (i64 x.Result.Const) := rfl
@[simp] theorem eUModel4 (x : DModel) (h : 4 < (rUModel x).length) : (rUModel x)[4] = i64 x.Result.Const := rfl
@[simp] theorem gUModel5 (x : DModel) : (rUModel x)[5]? = some (.us 1 (intsR x.Result.Coeffs)) := rfl
@[simp] theorem eUModel5 (x : DModel) (h : 5 < (rUModel x).length) : (rUModel x)[5] = .us 1 (intsR x.Result.Coeffs) := rfl
@[simp] theorem tUModel (x : DModel) : List.take 6 (rUModel x) = rUModel x := rfl
@[simp] theorem tUModel_System (x : DModel) : List.take 2 (rUModel x) = rUSystem x.System := rfl
@[simp] theorem tUModel_Result (x : DModel) : List.take 2 (List.drop 4 (rUModel x)) = rULin x.Result := rfl

def wLinSS (l : List (List DLin)) : Nat := wL wLinS l
def wModel (x : DModel) : Nat := wSystem x.System + wLinS x.Params + wLinSS x.Args + wLin x.Result
def wModelS (l : List DModel) : Nat := wL wModel l
def rAModelS (l : List DModel) : List AV := [.sl 6 (l.map rAModel)]
def rUModelS (l : List DModel) : List AV := [.us 6 (l.map rUModel)]
@[simp] theorem drl_UModelS (x : List DModel) : drl (rUModelS x) = rAModelS x := by simp [rUModelS, rAModelS]
@[simp] theorem drrm_UModelS (l : List (List DModel)) : drr (l.map rUModelS) = l.map rAModelS := by rw [drr_eq, List.map_map]; exact List.map_congr_left fun x _ => drl_UModelS x
@[simp] theorem clean_UModelS (x : List DModel) : cleanl (rUModelS x) = true := by simp [rUModelS]
@[simp] theorem cleanm_UModelS (l : List (List DModel)) : cleanr (l.map rUModelS) = true := by rw [cleanr_iff]; simp
@[simp] theorem cell_UModelS (x : List DModel) : (rUModelS x).all isCell = true := by simp [rUModelS]
@[simp] theorem cell_AModelS (x : List DModel) : (rAModelS x).all isCell = true := by simp [rAModelS]
@[simp] theorem len_UModelS (x : List DModel) : (rUModelS x).length = 1 := by simp [rUModelS]
@[simp] theorem len_AModelS (x : List DModel) : (rAModelS x).length = 1 := by simp [rAModelS]
@[simp] theorem bw_AModelS (x : List DModel) (h : Heap) : bwl (rAModelS x) h = some (rAModelS x) := by simp [rAModelS]

structure DObligation where
  System : DSystem
  Target : DLin
deriving DecidableEq
def rAObligation (x : DObligation) : List AV := [i64 x.System.N, .sl 2 (x.System.Rows.map rALin), i64 x.Target.Const, .sl 1 (intsR x.Target.Coeffs)]
def rUObligation (x : DObligation) : List AV := [i64 x.System.N, .us 2 (x.System.Rows.map rULin), i64 x.Target.Const, .us 1 (intsR x.Target.Coeffs)]
@[simp] theorem drl_UObligation (x : DObligation) : drl (rUObligation x) = rAObligation x := by simp [rUObligation, rAObligation]
@[simp] theorem drrm_UObligation (l : List (DObligation)) : drr (l.map rUObligation) = l.map rAObligation := by rw [drr_eq, List.map_map]; exact List.map_congr_left fun x _ => drl_UObligation x
@[simp] theorem clean_UObligation (x : DObligation) : cleanl (rUObligation x) = true := by simp [rUObligation]
@[simp] theorem cleanm_UObligation (l : List (DObligation)) : cleanr (l.map rUObligation) = true := by rw [cleanr_iff]; simp
@[simp] theorem cell_UObligation (x : DObligation) : (rUObligation x).all isCell = true := by simp [rUObligation]
@[simp] theorem cell_AObligation (x : DObligation) : (rAObligation x).all isCell = true := by simp [rAObligation]
@[simp] theorem len_UObligation (x : DObligation) : (rUObligation x).length = 4 := by simp [rUObligation]
@[simp] theorem len_AObligation (x : DObligation) : (rAObligation x).length = 4 := by simp [rAObligation]
@[simp] theorem bw_AObligation (x : DObligation) (h : Heap) : bwl (rAObligation x) h = some (rAObligation x) := by simp [rAObligation]
@[simp] theorem gAObligation0 (x : DObligation) : (rAObligation x)[0]? = some (i64 x.System.N) := rfl
@[simp] theorem eAObligation0 (x : DObligation) (h : 0 < (rAObligation x).length) : (rAObligation x)[0] = i64 x.System.N := rfl
@[simp] theorem gAObligation1 (x : DObligation) : (rAObligation x)[1]? = some (.sl 2 (x.System.Rows.map rALin)) := rfl
@[simp] theorem eAObligation1 (x : DObligation) (h : 1 < (rAObligation x).length) : (rAObligation x)[1] = .sl 2 (x.System.Rows.map rALin) := rfl
@[simp] theorem gAObligation2 (x : DObligation) : (rAObligation x)[2]? = some (i64 x.Target.Const) := rfl
@[simp] theorem eAObligation2 (x : DObligation) (h : 2 < (rAObligation x).length) : (rAObligation x)[2] = i64 x.Target.Const := rfl
@[simp] theorem gAObligation3 (x : DObligation) : (rAObligation x)[3]? = some (.sl 1 (intsR x.Target.Coeffs)) := rfl
@[simp] theorem eAObligation3 (x : DObligation) (h : 3 < (rAObligation x).length) : (rAObligation x)[3] = .sl 1 (intsR x.Target.Coeffs) := rfl
@[simp] theorem tAObligation (x : DObligation) : List.take 4 (rAObligation x) = rAObligation x := rfl
@[simp] theorem tAObligation_System (x : DObligation) : List.take 2 (rAObligation x) = rASystem x.System := rfl
@[simp] theorem tAObligation_Target (x : DObligation) : List.take 2 (List.drop 2 (rAObligation x)) = rALin x.Target := rfl
@[simp] theorem gUObligation0 (x : DObligation) : (rUObligation x)[0]? = some (i64 x.System.N) := rfl
@[simp] theorem eUObligation0 (x : DObligation) (h : 0 < (rUObligation x).length) : (rUObligation x)[0] = i64 x.System.N := rfl
@[simp] theorem gUObligation1 (x : DObligation) : (rUObligation x)[1]? = some (.us 2 (x.System.Rows.map rULin)) := rfl
@[simp] theorem eUObligation1 (x : DObligation) (h : 1 < (rUObligation x).length) : (rUObligation x)[1] = .us 2 (x.System.Rows.map rULin) := rfl
@[simp] theorem gUObligation2 (x : DObligation) : (rUObligation x)[2]? = some (i64 x.Target.Const) := rfl
@[simp] theorem eUObligation2 (x : DObligation) (h : 2 < (rUObligation x).length) : (rUObligation x)[2] = i64 x.Target.Const := rfl
@[simp] theorem gUObligation3 (x : DObligation) : (rUObligation x)[3]? = some (.us 1 (intsR x.Target.Coeffs)) := rfl
@[simp] theorem eUObligation3 (x : DObligation) (h : 3 < (rUObligation x).length) : (rUObligation x)[3] = .us 1 (intsR x.Target.Coeffs) := rfl
@[simp] theorem tUObligation (x : DObligation) : List.take 4 (rUObligation x) = rUObligation x := rfl
@[simp] theorem tUObligation_System (x : DObligation) : List.take 2 (rUObligation x) = rUSystem x.System := rfl
@[simp] theorem tUObligation_Target (x : DObligation) : List.take 2 (List.drop 2 (rUObligation x)) = rULin x.Target := rfl

def wObligation (x : DObligation) : Nat := wSystem x.System + wLin x.Target
def wObligationS (l : List DObligation) : Nat := wL wObligation l
def rAObligationS (l : List DObligation) : List AV := [.sl 4 (l.map rAObligation)]
def rUObligationS (l : List DObligation) : List AV := [.us 4 (l.map rUObligation)]
@[simp] theorem drl_UObligationS (x : List DObligation) : drl (rUObligationS x) = rAObligationS x := by simp [rUObligationS, rAObligationS]
@[simp] theorem drrm_UObligationS (l : List (List DObligation)) : drr (l.map rUObligationS) = l.map rAObligationS := by rw [drr_eq, List.map_map]; exact List.map_congr_left fun x _ => drl_UObligationS x
@[simp] theorem clean_UObligationS (x : List DObligation) : cleanl (rUObligationS x) = true := by simp [rUObligationS]
@[simp] theorem cleanm_UObligationS (l : List (List DObligation)) : cleanr (l.map rUObligationS) = true := by rw [cleanr_iff]; simp
@[simp] theorem cell_UObligationS (x : List DObligation) : (rUObligationS x).all isCell = true := by simp [rUObligationS]
@[simp] theorem cell_AObligationS (x : List DObligation) : (rAObligationS x).all isCell = true := by simp [rAObligationS]
@[simp] theorem len_UObligationS (x : List DObligation) : (rUObligationS x).length = 1 := by simp [rUObligationS]
@[simp] theorem len_AObligationS (x : List DObligation) : (rAObligationS x).length = 1 := by simp [rAObligationS]
@[simp] theorem bw_AObligationS (x : List DObligation) (h : Heap) : bwl (rAObligationS x) h = some (rAObligationS x) := by simp [rAObligationS]

structure DBounds where
  Kind : Int
  Lins : List DLin
deriving DecidableEq
def rABounds (x : DBounds) : List AV := [i64 x.Kind, .sl 2 (x.Lins.map rALin)]
def rUBounds (x : DBounds) : List AV := [i64 x.Kind, .us 2 (x.Lins.map rULin)]
@[simp] theorem drl_UBounds (x : DBounds) : drl (rUBounds x) = rABounds x := by simp [rUBounds, rABounds]
@[simp] theorem drrm_UBounds (l : List (DBounds)) : drr (l.map rUBounds) = l.map rABounds := by rw [drr_eq, List.map_map]; exact List.map_congr_left fun x _ => drl_UBounds x
@[simp] theorem clean_UBounds (x : DBounds) : cleanl (rUBounds x) = true := by simp [rUBounds]
@[simp] theorem cleanm_UBounds (l : List (DBounds)) : cleanr (l.map rUBounds) = true := by rw [cleanr_iff]; simp
@[simp] theorem cell_UBounds (x : DBounds) : (rUBounds x).all isCell = true := by simp [rUBounds]
@[simp] theorem cell_ABounds (x : DBounds) : (rABounds x).all isCell = true := by simp [rABounds]
@[simp] theorem len_UBounds (x : DBounds) : (rUBounds x).length = 2 := by simp [rUBounds]
@[simp] theorem len_ABounds (x : DBounds) : (rABounds x).length = 2 := by simp [rABounds]
@[simp] theorem bw_ABounds (x : DBounds) (h : Heap) : bwl (rABounds x) h = some (rABounds x) := by simp [rABounds]
@[simp] theorem gABounds0 (x : DBounds) : (rABounds x)[0]? = some (i64 x.Kind) := rfl
@[simp] theorem eABounds0 (x : DBounds) (h : 0 < (rABounds x).length) : (rABounds x)[0] = i64 x.Kind := rfl
@[simp] theorem gABounds1 (x : DBounds) : (rABounds x)[1]? = some (.sl 2 (x.Lins.map rALin)) := rfl
@[simp] theorem eABounds1 (x : DBounds) (h : 1 < (rABounds x).length) : (rABounds x)[1] = .sl 2 (x.Lins.map rALin) := rfl
@[simp] theorem tABounds (x : DBounds) : List.take 2 (rABounds x) = rABounds x := rfl
@[simp] theorem gUBounds0 (x : DBounds) : (rUBounds x)[0]? = some (i64 x.Kind) := rfl
@[simp] theorem eUBounds0 (x : DBounds) (h : 0 < (rUBounds x).length) : (rUBounds x)[0] = i64 x.Kind := rfl
@[simp] theorem gUBounds1 (x : DBounds) : (rUBounds x)[1]? = some (.us 2 (x.Lins.map rULin)) := rfl
@[simp] theorem eUBounds1 (x : DBounds) (h : 1 < (rUBounds x).length) : (rUBounds x)[1] = .us 2 (x.Lins.map rULin) := rfl
@[simp] theorem tUBounds (x : DBounds) : List.take 2 (rUBounds x) = rUBounds x := rfl

def wBounds (x : DBounds) : Nat := wLinS x.Lins
def wBoundsS (l : List DBounds) : Nat := wL wBounds l
def rABoundsS (l : List DBounds) : List AV := [.sl 2 (l.map rABounds)]
def rUBoundsS (l : List DBounds) : List AV := [.us 2 (l.map rUBounds)]
@[simp] theorem drl_UBoundsS (x : List DBounds) : drl (rUBoundsS x) = rABoundsS x := by simp [rUBoundsS, rABoundsS]
@[simp] theorem drrm_UBoundsS (l : List (List DBounds)) : drr (l.map rUBoundsS) = l.map rABoundsS := by rw [drr_eq, List.map_map]; exact List.map_congr_left fun x _ => drl_UBoundsS x
@[simp] theorem clean_UBoundsS (x : List DBounds) : cleanl (rUBoundsS x) = true := by simp [rUBoundsS]
@[simp] theorem cleanm_UBoundsS (l : List (List DBounds)) : cleanr (l.map rUBoundsS) = true := by rw [cleanr_iff]; simp
@[simp] theorem cell_UBoundsS (x : List DBounds) : (rUBoundsS x).all isCell = true := by simp [rUBoundsS]
@[simp] theorem cell_ABoundsS (x : List DBounds) : (rABoundsS x).all isCell = true := by simp [rABoundsS]
@[simp] theorem len_UBoundsS (x : List DBounds) : (rUBoundsS x).length = 1 := by simp [rUBoundsS]
@[simp] theorem len_ABoundsS (x : List DBounds) : (rABoundsS x).length = 1 := by simp [rABoundsS]
@[simp] theorem bw_ABoundsS (x : List DBounds) (h : Heap) : bwl (rABoundsS x) h = some (rABoundsS x) := by simp [rABoundsS]

structure DEdge where
  Rule : Int
  Call : Int
deriving DecidableEq
def rAEdge (x : DEdge) : List AV := [i64 x.Rule, i64 x.Call]
def rUEdge (x : DEdge) : List AV := [i64 x.Rule, i64 x.Call]
@[simp] theorem drl_UEdge (x : DEdge) : drl (rUEdge x) = rAEdge x := by simp [rUEdge, rAEdge]
@[simp] theorem drrm_UEdge (l : List (DEdge)) : drr (l.map rUEdge) = l.map rAEdge := by rw [drr_eq, List.map_map]; exact List.map_congr_left fun x _ => drl_UEdge x
@[simp] theorem clean_UEdge (x : DEdge) : cleanl (rUEdge x) = true := by simp [rUEdge]
@[simp] theorem cleanm_UEdge (l : List (DEdge)) : cleanr (l.map rUEdge) = true := by rw [cleanr_iff]; simp
@[simp] theorem cell_UEdge (x : DEdge) : (rUEdge x).all isCell = true := by simp [rUEdge]
@[simp] theorem cell_AEdge (x : DEdge) : (rAEdge x).all isCell = true := by simp [rAEdge]
@[simp] theorem len_UEdge (x : DEdge) : (rUEdge x).length = 2 := by simp [rUEdge]
@[simp] theorem len_AEdge (x : DEdge) : (rAEdge x).length = 2 := by simp [rAEdge]
@[simp] theorem bw_AEdge (x : DEdge) (h : Heap) : bwl (rAEdge x) h = some (rAEdge x) := by simp [rAEdge]
@[simp] theorem gAEdge0 (x : DEdge) : (rAEdge x)[0]? = some (i64 x.Rule) := rfl
@[simp] theorem eAEdge0 (x : DEdge) (h : 0 < (rAEdge x).length) : (rAEdge x)[0] = i64 x.Rule := rfl
@[simp] theorem gAEdge1 (x : DEdge) : (rAEdge x)[1]? = some (i64 x.Call) := rfl
@[simp] theorem eAEdge1 (x : DEdge) (h : 1 < (rAEdge x).length) : (rAEdge x)[1] = i64 x.Call := rfl
@[simp] theorem tAEdge (x : DEdge) : List.take 2 (rAEdge x) = rAEdge x := rfl
@[simp] theorem gUEdge0 (x : DEdge) : (rUEdge x)[0]? = some (i64 x.Rule) := rfl
@[simp] theorem eUEdge0 (x : DEdge) (h : 0 < (rUEdge x).length) : (rUEdge x)[0] = i64 x.Rule := rfl
@[simp] theorem gUEdge1 (x : DEdge) : (rUEdge x)[1]? = some (i64 x.Call) := rfl
@[simp] theorem eUEdge1 (x : DEdge) (h : 1 < (rUEdge x).length) : (rUEdge x)[1] = i64 x.Call := rfl
@[simp] theorem tUEdge (x : DEdge) : List.take 2 (rUEdge x) = rUEdge x := rfl

def wEdge (x : DEdge) : Nat := 0
def wEdgeS (l : List DEdge) : Nat := wL wEdge l
def rAEdgeS (l : List DEdge) : List AV := [.sl 2 (l.map rAEdge)]
def rUEdgeS (l : List DEdge) : List AV := [.us 2 (l.map rUEdge)]
@[simp] theorem drl_UEdgeS (x : List DEdge) : drl (rUEdgeS x) = rAEdgeS x := by simp [rUEdgeS, rAEdgeS]
@[simp] theorem drrm_UEdgeS (l : List (List DEdge)) : drr (l.map rUEdgeS) = l.map rAEdgeS := by rw [drr_eq, List.map_map]; exact List.map_congr_left fun x _ => drl_UEdgeS x
@[simp] theorem clean_UEdgeS (x : List DEdge) : cleanl (rUEdgeS x) = true := by simp [rUEdgeS]
@[simp] theorem cleanm_UEdgeS (l : List (List DEdge)) : cleanr (l.map rUEdgeS) = true := by rw [cleanr_iff]; simp
@[simp] theorem cell_UEdgeS (x : List DEdge) : (rUEdgeS x).all isCell = true := by simp [rUEdgeS]
@[simp] theorem cell_AEdgeS (x : List DEdge) : (rAEdgeS x).all isCell = true := by simp [rAEdgeS]
@[simp] theorem len_UEdgeS (x : List DEdge) : (rUEdgeS x).length = 1 := by simp [rUEdgeS]
@[simp] theorem len_AEdgeS (x : List DEdge) : (rAEdgeS x).length = 1 := by simp [rAEdgeS]
@[simp] theorem bw_AEdgeS (x : List DEdge) (h : Heap) : bwl (rAEdgeS x) h = some (rAEdgeS x) := by simp [rAEdgeS]

structure DRanking where
  Levels : List (List DLin)
  Edges : List Int
deriving DecidableEq
def rARanking (x : DRanking) : List AV := [.sl 1 (x.Levels.map rALinS), .sl 1 (intsR x.Edges)]
def rURanking (x : DRanking) : List AV := [.us 1 (x.Levels.map rULinS), .us 1 (intsR x.Edges)]
@[simp] theorem drl_URanking (x : DRanking) : drl (rURanking x) = rARanking x := by simp [rURanking, rARanking]
@[simp] theorem drrm_URanking (l : List (DRanking)) : drr (l.map rURanking) = l.map rARanking := by rw [drr_eq, List.map_map]; exact List.map_congr_left fun x _ => drl_URanking x
@[simp] theorem clean_URanking (x : DRanking) : cleanl (rURanking x) = true := by simp [rURanking]
@[simp] theorem cleanm_URanking (l : List (DRanking)) : cleanr (l.map rURanking) = true := by rw [cleanr_iff]; simp
@[simp] theorem cell_URanking (x : DRanking) : (rURanking x).all isCell = true := by simp [rURanking]
@[simp] theorem cell_ARanking (x : DRanking) : (rARanking x).all isCell = true := by simp [rARanking]
@[simp] theorem len_URanking (x : DRanking) : (rURanking x).length = 2 := by simp [rURanking]
@[simp] theorem len_ARanking (x : DRanking) : (rARanking x).length = 2 := by simp [rARanking]
@[simp] theorem bw_ARanking (x : DRanking) (h : Heap) : bwl (rARanking x) h = some (rARanking x) := by simp [rARanking]
@[simp] theorem gARanking0 (x : DRanking) : (rARanking x)[0]? = some (.sl 1 (x.Levels.map rALinS)) := rfl
@[simp] theorem eARanking0 (x : DRanking) (h : 0 < (rARanking x).length) : (rARanking x)[0] = .sl 1 (x.Levels.map rALinS) := rfl
@[simp] theorem gARanking1 (x : DRanking) : (rARanking x)[1]? = some (.sl 1 (intsR x.Edges)) := rfl
@[simp] theorem eARanking1 (x : DRanking) (h : 1 < (rARanking x).length) : (rARanking x)[1] = .sl 1 (intsR x.Edges) := rfl
@[simp] theorem tARanking (x : DRanking) : List.take 2 (rARanking x) = rARanking x := rfl
@[simp] theorem gURanking0 (x : DRanking) : (rURanking x)[0]? = some (.us 1 (x.Levels.map rULinS)) := rfl
@[simp] theorem eURanking0 (x : DRanking) (h : 0 < (rURanking x).length) : (rURanking x)[0] = .us 1 (x.Levels.map rULinS) := rfl
@[simp] theorem gURanking1 (x : DRanking) : (rURanking x)[1]? = some (.us 1 (intsR x.Edges)) := rfl
@[simp] theorem eURanking1 (x : DRanking) (h : 1 < (rURanking x).length) : (rURanking x)[1] = .us 1 (intsR x.Edges) := rfl
@[simp] theorem tURanking (x : DRanking) : List.take 2 (rURanking x) = rURanking x := rfl

def wRanking (x : DRanking) : Nat := wLinSS x.Levels + wIntS x.Edges
def wRankingS (l : List DRanking) : Nat := wL wRanking l
def rARankingS (l : List DRanking) : List AV := [.sl 2 (l.map rARanking)]
def rURankingS (l : List DRanking) : List AV := [.us 2 (l.map rURanking)]
@[simp] theorem drl_URankingS (x : List DRanking) : drl (rURankingS x) = rARankingS x := by simp [rURankingS, rARankingS]
@[simp] theorem drrm_URankingS (l : List (List DRanking)) : drr (l.map rURankingS) = l.map rARankingS := by rw [drr_eq, List.map_map]; exact List.map_congr_left fun x _ => drl_URankingS x
@[simp] theorem clean_URankingS (x : List DRanking) : cleanl (rURankingS x) = true := by simp [rURankingS]
@[simp] theorem cleanm_URankingS (l : List (List DRanking)) : cleanr (l.map rURankingS) = true := by rw [cleanr_iff]; simp
@[simp] theorem cell_URankingS (x : List DRanking) : (rURankingS x).all isCell = true := by simp [rURankingS]
@[simp] theorem cell_ARankingS (x : List DRanking) : (rARankingS x).all isCell = true := by simp [rARankingS]
@[simp] theorem len_URankingS (x : List DRanking) : (rURankingS x).length = 1 := by simp [rURankingS]
@[simp] theorem len_ARankingS (x : List DRanking) : (rARankingS x).length = 1 := by simp [rARankingS]
@[simp] theorem bw_ARankingS (x : List DRanking) (h : Heap) : bwl (rARankingS x) h = some (rARankingS x) := by simp [rARankingS]

end Go.Proofs.Ytoejpoioleffpaa

