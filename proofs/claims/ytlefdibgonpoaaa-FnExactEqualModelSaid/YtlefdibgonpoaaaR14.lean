/- Aggregates, new rows. -/
import Derived.Test.YtlefdibgonpoaaaR13
import Derived.Laws.BytesString
namespace Go.Proofs.Ytlefdibgonpoaaa
open Go Go.RowKit

/-! Parts laid into cells. -/
theorem fold_set (v : List Value) (off : Nat) : ∀ (k : Nat) (cs : Array Value), off + k + v.length ≤ cs.size →
    ((v.zipIdx k).foldl (fun cs (x : Value × Nat) => cs.setIfInBounds (off + x.2) x.1) cs).toList = cs.toList.take (off + k) ++ (v ++ cs.toList.drop (off + k + v.length)) := by
  induction v with
  | nil => intro k cs _; simp
  | cons x v ih =>
    intro k cs hle
    simp only [List.length_cons] at hle
    simp only [List.zipIdx_cons, List.foldl_cons]
    rw [ih (k + 1) _ (by simp; omega)]
    rw [Array.toList_setIfInBounds]
    have hlt : off + k < cs.toList.length := by simp; omega
    have e1 : (cs.toList.set (off + k) x).take (off + (k + 1)) = cs.toList.take (off + k) ++ [x] := by
      rw [← Nat.add_assoc, List.take_succ_eq_append_getElem (by simpa using hlt)]
      simp [List.take_set_of_le]
    have e2 : (cs.toList.set (off + k) x).drop (off + (k + 1) + v.length) = cs.toList.drop (off + k + (x :: v).length) := by
      rw [List.drop_set_of_lt (by omega)]
      congr 1; simp; omega
    rw [e1, e2]; simp

section
variable {P : Program} {base : Nat} {w0 w : World} {L : Nat → Option Loc} {N : Nat} {F : Nat → List Nat} {E : List Nat} {h : Heap} {s : Nat → AV} {a : Act} {K : AV → Heap → Nat → Prop}

theorem VRl_cellsOf' {x : AV} {v : Value} {S : List Nat} (hv : VR w L N x v S) (hx : x ≠ .undef) (hx2 : ∀ vs, x ≠ .tup vs) : VRl w L N (cellsOf x) v.cells.toList S := by
  cases x
  case agg cs => simp only [VR] at hv; obtain ⟨vs, rfl, h⟩ := hv; exact h
  case undef => exact absurd rfl hx
  case tup vs => exact absurd rfl (hx2 vs)
  all_goals
    have hone := oneCell_of_VR hv rfl
    have hcell : v.cells = #[v] := by cases v <;> first | rfl | (simp [Value.oneCell'] at hone)
    simp only [cellsOf, hcell]
    exact ⟨v, [], S, [], rfl, by simp, hv, rfl, rfl⟩

theorem fill_sound (place : Nat → Option (Nat × Nat)) : ∀ (rs : List ((Nat × Nat × AV) × (Nat × Value))) (cells : List AV) (cs : Array Value) (out : List AV),
    VRl w L N cells cs.toList [] → (∀ r ∈ rs, place r.2.1 = some (r.1.1, r.1.2.1) ∧ VR w L N r.1.2.2 r.2.2 [] ∧ r.1.2.2 ≠ .undef ∧ ∀ vs, r.1.2.2 ≠ .tup vs) → fillA cells (rs.map (·.1)) = some out →
    ∃ o, Instr.fill place cs (rs.map (·.2)) = some o ∧ VRl w L N out o.toList [] := by
  intro rs
  induction rs with
  | nil =>
    intro cells cs out hv hf ho
    simp only [List.map_nil, fillA, Option.some.injEq] at ho
    subst ho
    exact ⟨cs, rfl, hv⟩
  | cons r rs ih =>
    intro cells cs out hv hf ho
    obtain ⟨⟨off, sz, x⟩, ⟨i, v⟩⟩ := r
    obtain ⟨h1, h2, h3, h4⟩ := hf _ (List.mem_cons_self ..)
    simp only at h1 h2 h3 h4
    simp only [List.map_cons, fillA] at ho
    split at ho
    · rename_i hc
      have hcell := VRl_cellsOf' h2 h3 h4
      have hl := VRl_length hcell
      have hlc := VRl_length hv
      simp only [Array.length_toList] at hl hlc
      obtain ⟨S1, S3, q1, q2, q3⟩ := VRl_splice hv hcell (by rw [hc.1]; exact hc.2)
      have hS : S1 ++ S3 = [] := List.eq_nil_iff_forall_not_mem.2 fun y hy => by simpa using q1 y hy
      simp only [List.append_eq_nil_iff] at hS
      simp only [hS.1, hS.2, List.append_nil] at q3
      have hfold := fold_set v.cells.toList off 0 cs (by simp [hl, hc.1]; omega)
      have he : (v.cells.zipIdx.foldl (fun cs (c, j) => cs.setIfInBounds (off + j) c) cs).toList = cs.toList.take off ++ (v.cells.toList ++ cs.toList.drop (off + v.cells.toList.length)) := by
        rw [← Array.foldl_toList, Array.toList_zipIdx]
        simpa using hfold
      obtain ⟨o, e1, e2⟩ := ih _ (v.cells.zipIdx.foldl (fun cs (c, j) => cs.setIfInBounds (off + j) c) cs) out (by rw [he]; exact q3) (fun r hr => hf r (List.mem_cons_of_mem _ hr)) ho
      refine ⟨o, ?_, e2⟩
      simp only [List.map_cons, Instr.fill]
      rw [h1]
      simp only []
      rw [if_neg (by simp; constructor <;> omega)]
      exact e1
    · cases ho

end

end Go.Proofs.Ytlefdibgonpoaaa
