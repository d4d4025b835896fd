/- Functions of one make: lists that are copied, element by element. -/
import Derived.Test.YtlefdibgonpoaaaR26
namespace Go.Proofs.Ytlefdibgonpoaaa
open Go Go.RowKit

theorem subl_length : ∀ (rs : List AV) (n : Nat), (subl rs n).length = rs.length
  | [], _ => rfl
  | r :: rs, n => by simp [subl, subl_length rs]

theorem isCell_sub (r : AV) (n : Nat) (h : isCell r = true) : isCell (sub r n) = true := by
  cases r <;> simp_all [isCell, sub]

theorem isCell_subl : ∀ (rs : List AV) (n : Nat), rs.all isCell = true → (subl rs n).all isCell = true
  | [], _, _ => rfl
  | r :: rs, n, h => by
    simp only [List.all_cons, Bool.and_eq_true] at h
    simp only [subl, List.all_cons, Bool.and_eq_true]
    exact ⟨isCell_sub r n h.1, isCell_subl rs _ h.2⟩

theorem cells_sub_len (r : AV) (n : Nat) : (cellsOf (sub r n)).length = (cellsOf r).length := by
  cases r <;> simp [sub, cellsOf, subl_length]

theorem cells_sub_isCell (r : AV) (n : Nat) (h : (cellsOf r).all isCell = true) : (cellsOf (sub r n)).all isCell = true := by
  cases r with
  | agg cs => exact isCell_subl cs n h
  | _ => simp_all [sub, cellsOf, isCell]

theorem dtl_cells_sub {r : AV} {h : Heap} {n : Nat} (hc : clean r = true) (hf : freshFrom h n) (hcell : (cellsOf r).all isCell = true) : dtl (cellsOf (sub r n)) (addAll h n (col r)) = some (cellsOf r, h) := by
  by_cases ha : ∃ cs, r = .agg cs
  · obtain ⟨cs, rfl⟩ := ha
    have := dtl_subl cs h n [] (by simpa [clean] using hc) hf
    simpa [sub, cellsOf, col, addAll] using this
  · have h1 : cellsOf r = [r] := by cases r <;> first | rfl | exact absurd ⟨_, rfl⟩ ha
    have h2 : cellsOf (sub r n) = [sub r n] := by
      cases r <;> first | rfl | exact absurd ⟨_, rfl⟩ ha | simp_all [cellsOf, isCell]
    have := dt_sub r h n [] hc hf
    rw [h1, h2]
    simp only [List.append_nil, addAll] at this
    simp [dtl, this]

def tTo (agg : Bool) (sz bytes g : Nat) (z : List AV) : AFn :=
⟨23, [(.t 2)], (.seq 
 (.reg [⟨some 2, (.mv (.k (.nil sz))), no⟩]) (.seq 
 (.reg [⟨some 5, (.mv (.t 0)), no⟩, ⟨some 6, (.len false (.t 5)), no⟩, ⟨some 7, (.mks bytes z (.t 6) (.t 6)), no⟩, ⟨some 3, (.mv (.t 7)), no⟩]) (.seq (.seq 
 (.reg [⟨some 4, (.mv (.k (.int .i64 0))), no⟩]) (.blk 0 (.loop (.seq (.seq 
 (.reg [⟨some 8, (.mv (.t 4)), no⟩, ⟨some 9, (.mv (.t 0)), no⟩, ⟨some 10, (.len false (.t 9)), no⟩, ⟨some 11, (.bin .lss (.t 8) (.t 10)), no⟩]) (.cond (.t 11) .skip (.exit 0))) (.seq (.blk 1 
 (.reg [⟨some 14, (.mv (.t 3)), no⟩, ⟨some 15, (.mv (.t 4)), no⟩, ⟨some 16, (.mv (.t 0)), no⟩, ⟨some 17, (.mv (.t 4)), no⟩, ⟨some 18, (.ixa sz (.t 16) (.t 17)), no⟩, ⟨some 19, (.ld agg sz (.t 18)), no⟩, ⟨some 20, (.call (.k (.fn (.func g) [] [])) [(.t 19)]), no⟩, ⟨some 21, (.ixa sz (.t 14) (.t 15)), no⟩, ⟨no, (.st sz (.t 21) (.t 20)), no⟩])) 
 (.reg [⟨some 12, (.mv (.t 4)), no⟩, ⟨some 13, (.bin .add (.t 12) (.k (.int .i64 1))), no⟩, ⟨some 4, (.mv (.t 13)), no⟩])))))) (.seq 
 (.reg [⟨some 22, (.mv (.t 3)), no⟩, ⟨some 2, (.mv (.t 22)), no⟩]) .ret))))⟩

theorem holds_tTo {P : Program} {f : FuncId} {fn : Func} {agg : Bool} {sz bytes g : Nat} {z : List AV} {α : Type} {rowOf : α → List AV} {eltOf eltU : α → AV}
    (hf : P.funcs[f]? = some fn) (hc : compFn P fn = some (tTo agg sz bytes g z)) (hn : (fn.name == "runtime.NumGoroutine") = false)
    (helt : ∀ x, ldv true agg (rowOf x) 0 sz = some (eltOf x)) (hbw : ∀ x h, bw (eltOf x) h = some (eltOf x)) (hcl : ∀ x, clean (eltU x) = true) (hcell : ∀ x, (cellsOf (eltU x)).all isCell = true) (hsz : ∀ x, (cellsOf (eltU x)).length = sz) (hz : z.length = sz)
    (a : List α) (hlen : a.length * bytes ≤ LIM) (hg : ∀ x, x ∈ a → Holds P g [eltOf x] (fun r => r = eltU x)) :
    Holds P f [.sl sz (a.map rowOf)] (fun r => r = .us sz (a.map fun x => cellsOf (eltU x))) := by
  refine holds_of_run hf hc hn (by simp [tTo]) ?_
  simp [tTo, -ldv, hz]
  intro h1
  refine ⟨by omega, rL_of (fun k s h n => ∃ (i : Nat) (rows : List (List AV)), k = a.length - i ∧ i ≤ a.length ∧ s 0 = .sl sz (a.map rowOf) ∧ s 3 = .ref 0 0 a.length ∧ s 4 = i64 i ∧ h = upd noHeap 0 (some ⟨false, sz, rows⟩) ∧ 0 < n ∧
    rows.length = a.length ∧ (∀ j, j < i → rows[j]? = (a.map fun x => cellsOf (eltU x))[j]?) ∧ (∀ j (hj : j < rows.length), rows[j].length = sz)) a.length ⟨0, List.replicate a.length z, by simp [hz]⟩ ?_⟩
  rintro k s h n ⟨i, rows, rfl, hi, s0, s3, s4, rfl, hn0, hr, hj, hcc⟩
  have hfr : freshFrom (upd noHeap 0 (some ⟨false, sz, rows⟩)) n := fun id hid => by rw [upd_other _ _ _ _ (by omega)]; rfl
  by_cases hlt : i < a.length
  · have hm := hcc i (by omega)
    unfold LIM at h1
    simp [s0, s3, s4, hlt, helt, -ldv]
    intro _
    refine call_of (hg a[i] (List.getElem_mem _)) (by simp [hbw]) ?_
    rintro r rfl
    have h0 : addAll (upd noHeap 0 (some ⟨false, sz, rows⟩)) n (col (eltU a[i])) 0 = some ⟨false, sz, rows⟩ := by rw [addAll_eq, if_neg (by omega)]; exact upd_same _ _ _
    have hd := dtl_cells_sub (hcl a[i]) hfr (hcell a[i])
    have hln := cells_sub_len (eltU a[i]) n
    have hci := cells_sub_isCell (eltU a[i]) n (hcell a[i])
    simp [s0, s3, s4, hlt, h0, hd, hln, hci, hsz, hr, -cellsOf]
    refine ⟨by omega, a.length - (i + 1), by omega, i + 1, rfl, by omega, by rw [wrap64 (by omega)]; rfl, rows.set i (cellsOf (eltU a[i])), by rw [List.drop_eq_nil_of_le (by omega), List.append_nil], by omega, by simp [hr], fun j hj' => ?_, fun j hj' => ?_⟩
    · show _ = (a[j]?).map fun x => cellsOf (eltU x)
      rw [List.getElem?_set]
      by_cases hji : i = j
      · subst hji; rw [if_pos rfl, if_pos (by omega), List.getElem?_eq_getElem hlt]; rfl
      · rw [if_neg hji]; simpa using hj j (by omega)
    · rw [List.getElem_set]
      split
      · exact hsz _
      · exact hcc j (by simpa using hj')
  · simp [s0, s3, s4, hlt, hr]
    intro _
    have : rows = a.map fun x => cellsOf (eltU x) := List.ext_getElem? fun j => by
      by_cases hji : j < i
      · exact hj j hji
      · rw [List.getElem?_eq_none (by omega), List.getElem?_eq_none (by simp; omega)]
    subst this
    have ht : List.take a.length (a.map fun x => cellsOf (eltU x)) = a.map fun x => cellsOf (eltU x) := List.take_of_length_le (by simp)
    have hcr : cleanr (a.map fun x => cellsOf (eltU x)) = true := by
      rw [cleanr_iff, List.all_eq_true]
      intro r hr'
      obtain ⟨x, _, rfl⟩ := List.mem_map.1 hr'
      have := hcl x
      cases hx : eltU x <;> simp_all [clean, cellsOf, cleanl]
    rw [ht]
    exact ⟨hcr, rfl⟩
end Go.Proofs.Ytlefdibgonpoaaa
