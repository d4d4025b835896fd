/- The abstract machine: its operations, its code. -/
import Derived.Test.YtlefdibgonpoaaaR1
namespace Go.Proofs.Ytlefdibgonpoaaa
open Go Go.RowKit

structure Blk where
  box : Bool
  sz : Nat
  rows : List (List AV)

abbrev Heap := Nat → Option Blk

def upd {α : Type} (f : Nat → α) (k : Nat) (v : α) : Nat → α := fun i => if i = k then v else f i

/-- An operand: a slot, or a constant. -/
inductive Opd where
  | t (n : Nat)
  | k (a : AV)

def ev (s : Nat → AV) : Opd → AV
  | .t n => s n
  | .k a => a

def cellsOf : AV → List AV
  | .agg cs => cs
  | a => [a]

def isCell : AV → Bool
  | .agg _ | .tup _ | .undef => false
  | _ => true

mutual
def dt : AV → Heap → Option (AV × Heap)
  | .ref id off len, h => match h id with
    | some B => if off = 0 ∧ B.box = false ∧ len ≤ B.rows.length then some (.us B.sz (B.rows.take len), upd h id Option.none) else Option.none
    | Option.none => Option.none
  | .nil sz, h => some (.us sz [], h)
  | .agg cs, h => (dtl cs h).map fun p => (.agg p.1, p.2)
  | .tup cs, h => (dtl cs h).map fun p => (.tup p.1, p.2)
  | .ptr .., _ | .mp _, _ | .undef, _ => Option.none
  | .fn f [] [], h => some (.fn f [] [], h)
  | .fn _ (_ :: _) _, _ | .fn _ _ (_ :: _), _ => Option.none
  | a, h => some (a, h)
def dtl : List AV → Heap → Option (List AV × Heap)
  | [], h => some ([], h)
  | a :: as, h => (dt a h).bind fun p => (dtl as p.2).map fun q => (p.1 :: q.1, q.2)
end

mutual
def col : AV → List (Nat × List (List AV))
  | .us sz rows => [(sz, rows)]
  | .agg cs => coll cs
  | .tup cs => coll cs
  | _ => []
def coll : List AV → List (Nat × List (List AV))
  | [] => []
  | a :: as => col a ++ coll as
end

mutual
def sub : AV → Nat → AV
  | .us _ rows, n => .ref n 0 rows.length
  | .agg cs, n => .agg (subl cs n)
  | .tup cs, n => .tup (subl cs n)
  | a, _ => a
def subl : List AV → Nat → List AV
  | [], _ => []
  | a :: as, n => sub a n :: subl as (n + (col a).length)
end

def addAll (h : Heap) (n : Nat) : List (Nat × List (List AV)) → Heap
  | [] => h
  | r :: rs => addAll (upd h n (some ⟨false, r.1, r.2⟩)) (n + 1) rs

mutual
def bw : AV → Heap → Option AV
  | .ref id off len, h => match h id with
    | some B => if B.box = false ∧ off + len ≤ B.rows.length then some (.sl B.sz (drr ((B.rows.drop off).take len))) else Option.none
    | Option.none => Option.none
  | .nil sz, _ => some (.sl sz [])
  | .agg cs, h => (bwl cs h).map .agg
  | .tup cs, h => (bwl cs h).map .tup
  | .us sz rows, _ => some (.sl sz (drr rows))
  | .ptr .., _ | .fptr .., _ | .undef, _ | .mp _, _ => Option.none
  | .fn f [] [], _ => some (.fn f [] [])
  | .fn f fi ca, h => (bwl fi h).bind fun x => (bwl ca h).map fun y => .fn f x y
  | a, _ => some a
def bwl : List AV → Heap → Option (List AV)
  | [], _ => some []
  | a :: as, h => (bw a h).bind fun x => (bwl as h).map fun y => x :: y
end

end Go.Proofs.Ytlefdibgonpoaaa
