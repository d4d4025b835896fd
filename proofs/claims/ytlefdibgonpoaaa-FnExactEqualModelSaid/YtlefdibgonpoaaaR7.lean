/- What each operation does, abstractly; how the model's operations are read. -/
import Derived.Test.YtlefdibgonpoaaaR6
namespace Go.Proofs.Ytlefdibgonpoaaa
open Go Go.RowKit

def rowD (rows : List (List AV)) (i : Nat) : List AV := rows.getD i []

def splice (row : List AV) (c : Nat) (cells : List AV) : List AV := row.take c ++ cells ++ row.drop (c + cells.length)

/-- The value of a variable of sz cells in a row. -/
def ldv (raw agg : Bool) (row : List AV) (c sz : Nat) : Option AV :=
  if c + sz ≤ row.length then
    if agg then some (.agg (if raw then (row.drop c).take sz else drl ((row.drop c).take sz)))
    else if sz = 1 then (match row[c]? with | some a => some (if raw then a else dr a) | Option.none => Option.none) else Option.none
  else Option.none

def onO {α : Type} (x : Option α) (K : α → Prop) : Prop := match x with | some a => K a | Option.none => False

def binI (op : BinOp) (k : IntKind) (a b : Int) : Option AV :=
  match op with
  | .add => some (.int k (k.wrap (a + b)))
  | .sub => some (.int k (k.wrap (a - b)))
  | .mul => some (.int k (k.wrap (a * b)))
  | .and => some (.int k (Go.bits .and k a b))
  | .or => some (.int k (Go.bits .or k a b))
  | .xor => some (.int k (Go.bits .xor k a b))
  | .eql => some (.bool (a == b))
  | .neq => some (.bool (a != b))
  | .lss => some (.bool (decide (a < b)))
  | .leq => some (.bool (decide (a ≤ b)))
  | .gtr => some (.bool (decide (a > b)))
  | .geq => some (.bool (decide (a ≥ b)))
  | _ => Option.none

def binS (op : BinOp) (a b : List UInt8) : Option AV :=
  match op with
  | .eql => some (.bool (a == b))
  | .neq => some (.bool (!(a == b)))
  | .lss => some (.bool (Op.bytesLess a b))
  | .leq => some (.bool (Op.bytesLess a b || a == b))
  | .gtr => some (.bool (!(Op.bytesLess a b || a == b)))
  | .geq => some (.bool (!(Op.bytesLess a b)))
  | _ => Option.none

/-- Parts laid into cells: each at its offset, of its size. -/
def fillA (cells : List AV) : List (Nat × Nat × AV) → Option (List AV)
  | [] => some cells
  | (o, sz, v) :: ps => if (cellsOf v).length = sz ∧ o + sz ≤ cells.length then fillA (splice cells o (cellsOf v)) ps else Option.none

def bytesOf : List (List AV) → Option (List UInt8)
  | [] => some []
  | [.int .u8 n] :: rs => (bytesOf rs).map fun l => UInt8.ofNat n.toNat :: l
  | _ => Option.none

def asI : AV → Option Int
  | .int _ n => some n
  | _ => Option.none

def callable (P : Program) (f : FuncId) : Bool := match P.funcs[f]? with | some fn => fn.body.isSome && !(fn.name == "runtime.NumGoroutine") | Option.none => false

/-- A call, from a heap on: what its result and the heap behind it are, K holds of. -/
def ACall (P : Program) (f : FuncId) (as : List AV) (h : Heap) (n : Nat) (K : AV → Heap → Nat → Prop) : Prop :=
  callable P f = true ∧ ∀ (base : Nat) (w0 w : World) (L : Nat → Option Loc) (F : Nat → List Nat) (vs : List Value), HRel base w0 w L n F [] h → VRl w L n as vs [] →
    Calls P f vs.toArray w fun e w' => ∃ (v : Value) (r : AV) (L' : Nat → Option Loc) (n' : Nat) (F' : Nat → List Nat) (h' : Heap), e = .returned v ∧
      HRel base w0 w' L' n' F' [] h' ∧ Ext w L n w' L' n' ∧ VR w' L' n' r v [] ∧ K r h' n'

/-- The rows of a slice that is read, and what becomes of the heap when its rows are copied elsewhere for good. -/
def srcRows (h : Heap) : AV → Option (Nat × List (List AV) × Heap)
  | .sl sz rows => some (sz, rows, h)
  | .nil sz => some (sz, [], h)
  | .ref id off len => match h id with
    | some B => if B.box = false ∧ off + len ≤ B.rows.length then some (B.sz, (B.rows.drop off).take len, upd h id (some ⟨false, B.sz, drr B.rows⟩)) else Option.none
    | Option.none => Option.none
  | _ => Option.none

inductive AOp where
  | mv (x : Opd)
  | pick (c a b : Opd)
  | box (z : List AV)
  | boxv (x : Opd)
  | build (z : List AV) (ps : List (Nat × Nat × Opd))
  | bsl (sz : Nat) (ps : List Opd)
  | ld (agg : Bool) (sz : Nat) (x : Opd)
  | st (sz : Nat) (a x : Opd)
  | nchk (x : Opd)
  | bin (op : BinOp) (x y : Opd)
  | beq (neg : Bool) (x y : Opd)
  | un (op : UnOp) (x : Opd)
  | cvi (k : IntKind) (x : Opd)
  | cvb (x : Opd)
  | mkf (f : Fn) (first cap : List Opd)
  | mks (bytes : Nat) (z : List AV) (len cap : Opd)
  | slc (str : Bool) (sz : Nat) (x : Opd) (lo hi : Option Opd)
  | fld (off : Nat) (x : Opd)
  | prt (agg : Bool) (off sz : Nat) (x : Opd)
  | ixa (sz : Nat) (x i : Opd)
  | ixs (x i : Opd)
  | ext (x : Opd) (i : Nat)
  | call (f : Opd) (args : List Opd)
  | len (str : Bool) (x : Opd)
  | app (bytes sz : Nat) (x y : Opd)
  | mnx (mx : Bool) (x y : Opd)

def lowOf (s : Nat → AV) (d : Int) : Option Opd → Option Int
  | some o => asI (ev s o)
  | Option.none => some d

def aop (P : Program) (s : Nat → AV) (h : Heap) (n : Nat) (K : AV → Heap → Nat → Prop) : AOp → Prop
  | .mv x => K (ev s x) h n
  | .pick c a b => match ev s c with
    | .bool c => (c = true → K (ev s a) h n) ∧ (c = false → K (ev s b) h n)
    | _ => False
  | .box z => K (.ptr n 0 0) (upd h n (some ⟨true, z.length, [z]⟩)) (n + 1)
  | .boxv x => 0 < (cellsOf (ev s x)).length ∧ (cellsOf (ev s x)).all isCell = true ∧ K (.ptr n 0 0) (upd h n (some ⟨true, (cellsOf (ev s x)).length, [cellsOf (ev s x)]⟩)) (n + 1)
  | .build z ps => (ps.all fun p => (cellsOf (ev s p.2.2)).all isCell) = true ∧ onO (fillA z (ps.map fun p => (p.1, p.2.1, ev s p.2.2))) fun cs => K (.agg cs) h n
  | .bsl sz ps => onO (dtl (ps.map (ev s)) h) fun q => (q.1.all fun a => (cellsOf a).length == sz && (cellsOf a).all isCell) = true ∧
      K (.ref n 0 ps.length) (upd q.2 n (some ⟨false, sz, q.1.map cellsOf⟩)) (n + 1)
  | .ld agg sz x => match ev s x with
    | .ptr id r c => onO (h id) fun B => r < B.rows.length ∧ onO (ldv B.box agg (rowD B.rows r) c sz) fun a => K a h n
    | .fptr row c => onO (ldv true agg row c sz) fun a => K a h n
    | _ => False
  | .st sz a x => (cellsOf (ev s x)).length = sz ∧ (cellsOf (ev s x)).all isCell = true ∧ match ev s a with
    | .ptr id r c => onO (h id) fun B =>
        if B.box then r < B.rows.length ∧ c + sz ≤ (rowD B.rows r).length ∧ K (.tup []) (upd h id (some ⟨true, B.sz, B.rows.set r (splice (rowD B.rows r) c (cellsOf (ev s x)))⟩)) n
        else onO (dtl (cellsOf (ev s x)) h) fun q => onO (q.2 id) fun B' => B'.box = false ∧ r < B'.rows.length ∧ c + sz ≤ (rowD B'.rows r).length ∧
          K (.tup []) (upd q.2 id (some ⟨false, B'.sz, B'.rows.set r (splice (rowD B'.rows r) c q.1)⟩)) n
    | _ => False
  | .nchk x => match ev s x with
    | .ptr id r c => (h id).isSome = true ∧ K (.ptr id r c) h n
    | .fptr row c => K (.fptr row c) h n
    | _ => False
  | .bin op x y => match ev s x, ev s y with
    | .int k a, .int k' b => k = k' ∧ match op with
      | .quo => b ≠ 0 ∧ K (.int k (k.wrap (a.tdiv b))) h n
      | .rem => b ≠ 0 ∧ K (.int k (a.tmod b)) h n
      | _ => onO (binI op k a b) fun r => K r h n
    | .str a, .str b => match op with
      | .add => a.length + b.length ≤ LIM ∧ K (.str (a ++ b)) h n
      | _ => onO (binS op a b) fun r => K r h n
    | _, _ => False
  | .beq neg x y => match ev s x, ev s y with
    | .bool a, .bool b => K (.bool (if neg then !(a == b) else a == b)) h n
    | _, _ => False
  | .un op x => match op, ev s x with
    | .not, .bool b => K (.bool (!b)) h n
    | .neg, .int k a => K (.int k (k.wrap (0 - a))) h n
    | _, _ => False
  | .cvi k x => onO (asI (ev s x)) fun a => K (.int k (k.wrap a)) h n
  | .cvb x => onO (srcRows h (ev s x)) fun p => onO (bytesOf p.2.1) fun l => K (.str l) h n
  | .mkf f fi ca => K (.fn f (fi.map (ev s)) (ca.map (ev s))) h n
  | .mks bytes z len cap => onO (asI (ev s len)) fun l => onO (asI (ev s cap)) fun c => 0 ≤ l ∧ l ≤ c ∧ c * bytes ≤ LIM ∧
      K (.ref n 0 l.toNat) (upd h n (some ⟨false, z.length, List.replicate l.toNat z⟩)) (n + 1)
  | .slc str sz x lo hi => match str, ev s x with
    | true, .str l => onO (lowOf s 0 lo) fun a => onO (lowOf s l.length hi) fun b => 0 ≤ a ∧ a ≤ b ∧ b ≤ l.length ∧ K (.str ((l.take b.toNat).drop a.toNat)) h n
    | false, .sl sz' rows => onO (lowOf s 0 lo) fun a => onO (lowOf s rows.length hi) fun b => sz' = sz ∧ 0 ≤ a ∧ a ≤ b ∧ b ≤ rows.length ∧ K (.sl sz' ((rows.take b.toNat).drop a.toNat)) h n
    | false, .ref id off len => onO (lowOf s 0 lo) fun a => onO (lowOf s len hi) fun b => 0 ≤ a ∧ a ≤ b ∧ b ≤ len ∧ onO (h id) fun B => B.sz = sz ∧ K (.ref id (off + a.toNat) (b - a).toNat) h n
    | false, .nil sz' => onO (lowOf s 0 lo) fun a => onO (lowOf s 0 hi) fun b => a = 0 ∧ b = 0 ∧ K (.nil sz') h n
    | _, _ => False
  | .fld off x => match ev s x with
    | .ptr id r c => (h id).isSome = true ∧ K (.ptr id r (c + off)) h n
    | .fptr row c => K (.fptr row (c + off)) h n
    | _ => False
  | .prt agg off sz x => match ev s x with
    | .agg cs => onO (ldv true agg cs off sz) fun a => K a h n
    | _ => False
  | .ixa sz x i => match ev s x, asI (ev s i) with
    | .sl sz' rows, some i => sz' = sz ∧ 0 ≤ i ∧ i < rows.length ∧ K (.fptr (rowD rows i.toNat) 0) h n
    | .ref id off len, some i => 0 ≤ i ∧ i < len ∧ onO (h id) fun B => B.sz = sz ∧ K (.ptr id (off + i.toNat) 0) h n
    | _, _ => False
  | .ixs x i => match ev s x, asI (ev s i) with
    | .str l, some i => 0 ≤ i ∧ i < l.length ∧ K (.int .u8 (l.getD i.toNat 0).toNat) h n
    | _, _ => False
  | .ext x i => match ev s x with
    | .tup vs => onO vs[i]? fun a => K a h n
    | _ => False
  | .call f args => match ev s f with
    | .fn (.func f) fi ca => ACall P f (fi ++ args.map (ev s) ++ ca) h n K
    | _ => False
  | .len str x => match str, ev s x with
    | true, .str l => l.length ≤ LIM → K (.int .i64 l.length) h n
    | false, .sl _ rows => rows.length ≤ LIM → K (.int .i64 rows.length) h n
    | false, .ref id _ len => (h id).isSome = true ∧ (len ≤ LIM → K (.int .i64 len) h n)
    | false, .nil _ => K (.int .i64 0) h n
    | _, _ => False
  | .app bytes sz x y => match ev s x with
    | .nil _ => onO (srcRows h (ev s y)) fun p => p.1 = sz ∧ (p.2.1.length * bytes ≤ LIM) ∧ K (.ref n 0 p.2.1.length) (upd p.2.2 n (some ⟨false, sz, p.2.1⟩)) (n + 1)
    | .ref id off len => off = 0 ∧ onO (srcRows h (ev s y)) fun p => onO (h id) fun B => B.box = false ∧ B.sz = sz ∧ len ≤ B.rows.length ∧ p.1 = sz ∧
        (match ev s y with | .ref id2 _ _ => id2 ≠ id | _ => True) ∧ ((len + p.2.1.length) * bytes ≤ LIM) ∧
        K (.ref n 0 (len + p.2.1.length)) (upd (upd p.2.2 id Option.none) n (some ⟨false, sz, B.rows.take len ++ p.2.1⟩)) (n + 1)
    | _ => False
  | .mnx mx x y => match ev s x, ev s y with
    | .int k a, .int k' b => k = k' ∧ K (.int k (if mx then (if b > a then b else a) else (if b < a then b else a))) h n
    | _, _ => False

end Go.Proofs.Ytlefdibgonpoaaa
