/- What a call gave is given away again: its parts come back. -/
import Derived.Test.YtlefdibgonpoaaaR25
namespace Go.Proofs.Ytlefdibgonpoaaa
open Go Go.RowKit

def freshFrom (h : Heap) (n : Nat) : Prop := ∀ id, n ≤ id → h id = Option.none

theorem addAll_append : ∀ (xs ys : List (Nat × List (List AV))) (h : Heap) (n : Nat), addAll h n (xs ++ ys) = addAll (addAll h n xs) (n + xs.length) ys
  | [], ys, h, n => by simp [addAll]
  | x :: xs, ys, h, n => by
    simp only [List.cons_append, addAll, addAll_append xs ys, List.length_cons]
    rw [show n + 1 + xs.length = n + (xs.length + 1) by omega]

theorem upd_comm {α : Type} (f : Nat → α) {i j : Nat} (a b : α) (h : i ≠ j) : upd (upd f i a) j b = upd (upd f j b) i a := by
  funext k; simp only [upd]; split <;> split <;> first | rfl | omega

theorem upd_addAll : ∀ (xs : List (Nat × List (List AV))) (h : Heap) (n id : Nat) (v : Option Blk), id < n → upd (addAll h n xs) id v = addAll (upd h id v) n xs
  | [], h, n, id, v, _ => rfl
  | x :: xs, h, n, id, v, hlt => by
    simp only [addAll]
    rw [upd_addAll xs _ _ _ _ (by omega), upd_comm _ _ _ (by omega)]

theorem freshFrom.addAll {h : Heap} {n : Nat} (hf : freshFrom h n) (xs : List (Nat × List (List AV))) : freshFrom (addAll h n xs) (n + xs.length) := fun id hid => by
  rw [addAll_eq, if_pos (by omega)]
  have : xs[id - n]? = Option.none := List.getElem?_eq_none (by omega)
  rw [this]; exact hf id (by omega)

theorem upd_none_fresh {h : Heap} {n : Nat} (hf : freshFrom h n) : upd h n Option.none = h := by
  funext i; simp only [upd]; split
  · rename_i e; rw [e, hf n (Nat.le_refl _)]
  · rfl

mutual
/-- The parts of a result, detached: the result itself; the heap is as it was, but for later parts. -/
theorem dt_sub : ∀ (r : AV) (h : Heap) (n : Nat) (ys : List (Nat × List (List AV))), clean r = true → freshFrom h n → dt (sub r n) (addAll h n (col r ++ ys)) = some (r, addAll h (n + (col r).length) ys)
  | .us sz rows, h, n, ys, _, hf => by
    simp only [sub, col, List.cons_append, List.nil_append, addAll, dt]
    have h1 : addAll (upd h n (some ⟨false, sz, rows⟩)) (n + 1) ys n = some ⟨false, sz, rows⟩ := by rw [addAll_eq, if_neg (by omega)]; exact upd_same _ _ _
    rw [h1]
    simp only [Nat.le_refl, and_self, if_true, List.take_length, List.length_cons, List.length_nil, Nat.zero_add]
    rw [upd_addAll _ _ _ _ _ (by omega), upd_upd, upd_none_fresh hf]
  | .agg cs, h, n, ys, hc, hf => by simp only [clean] at hc; simp only [sub, col, dt, dtl_subl cs h n ys hc hf, Option.map_some]
  | .tup cs, h, n, ys, hc, hf => by simp only [clean] at hc; simp only [sub, col, dt, dtl_subl cs h n ys hc hf, Option.map_some]
  | .int .., h, n, ys, _, _ => by simp [sub, col, dt]
  | .bool _, h, n, ys, _, _ => by simp [sub, col, dt]
  | .str _, h, n, ys, _, _ => by simp [sub, col, dt]
  | .nilp, h, n, ys, _, _ => by simp [sub, col, dt]
  | .undef, _, _, _, hc, _ => by simp [clean] at hc
  | .nil _, _, _, _, hc, _ => by simp [clean] at hc
  | .ptr .., _, _, _, hc, _ => by simp [clean] at hc
  | .fptr .., _, _, _, hc, _ => by simp [clean] at hc
  | .ref .., _, _, _, hc, _ => by simp [clean] at hc
  | .sl .., _, _, _, hc, _ => by simp [clean] at hc
  | .fn .., _, _, _, hc, _ => by simp [clean] at hc
  | .mp _, _, _, _, hc, _ => by simp [clean] at hc
theorem dtl_subl : ∀ (rs : List AV) (h : Heap) (n : Nat) (ys : List (Nat × List (List AV))), cleanl rs = true → freshFrom h n → dtl (subl rs n) (addAll h n (coll rs ++ ys)) = some (rs, addAll h (n + (coll rs).length) ys)
  | [], h, n, ys, _, _ => by simp [subl, coll, dtl]
  | r :: rs, h, n, ys, hc, hf => by
    simp only [cleanl, Bool.and_eq_true] at hc
    simp only [subl, coll, dtl, List.append_assoc]
    rw [dt_sub r h n (coll rs ++ ys) hc.1 hf]
    simp only [Option.bind_some]
    rw [dtl_subl rs h (n + (col r).length) ys hc.2 (fun id hid => hf id (by omega))]
    simp only [Option.map_some, List.length_append]
    rw [Nat.add_assoc]
end

end Go.Proofs.Ytlefdibgonpoaaa
