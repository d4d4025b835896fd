/- How abstract code is carried out in a proof: what follows is kept as data. -/
import Derived.Test.YtlefdibgonpoaaaR21
namespace Go.Proofs.Ytlefdibgonpoaaa
open Go Go.RowKit
def i64 (n : Int) : AV := .int .i64 n
def intsR (l : List Int) : List (List AV) := l.map fun n => [i64 n]
def ints (l : List Int) : AV := .sl 1 (intsR l)

abbrev Fin := AE → Env → Heap → Nat → Prop

inductive Kt where
  | seq (b : AC)
  | blk (id : Nat)

def kont (P : Program) : List Kt → AE → Env → Heap → Nat → Fin → Prop
  | [], e, s, h, n, Q => Q e s h n
  | .seq b :: ks, e, s, h, n, Q => match e with
    | .normal => awp P b s h n fun e s h n => kont P ks e s h n Q
    | e => kont P ks e s h n Q
  | .blk id :: ks, e, s, h, n, Q => match e with
    | .exit id' => if id' = id then kont P ks .normal s h n Q else kont P ks (.exit id') s h n Q
    | e => kont P ks e s h n Q

def rC (P : Program) (a : AC) (ks : List Kt) (s : Env) (h : Heap) (n : Nat) (Q : Fin) : Prop := awp P a s h n fun e s h n => kont P ks e s h n Q
def rO (P : Program) (os : List AO) (ks : List Kt) (s : Env) (h : Heap) (n : Nat) (Q : Fin) : Prop := awpO P os s h n fun s h n => kont P ks .normal s h n Q
def rD (P : Program) (t : DT) (ks : List Kt) (s : Env) (h : Heap) (n : Nat) (Q : Fin) : Prop := awpD P t s h n fun s h n => kont P ks .normal s h n Q
def rL (P : Program) (a : AC) (ks : List Kt) (s : Env) (h : Heap) (n : Nat) (Q : Fin) : Prop := ALoop (awp P a) s h n fun e s h n => kont P ks e s h n Q
def nextO (P : Program) (os : List AO) (ks : List Kt) (d : Option Nat) (s : Env) (Q : Fin) (r : AV) (h : Heap) (n : Nat) : Prop := rO P os ks (setO s d r) h n Q
def nextD (P : Program) (t : DT) (ks : List Kt) (d : Option Nat) (s : Env) (Q : Fin) (r : AV) (h : Heap) (n : Nat) : Prop := rD P t ks (setO s d r) h n Q
def hK (h : Heap) (K : AV → Heap → Nat → Prop) (r : AV) (h' : Heap) (n' : Nat) : Prop := hext h h' ∧ K r h' n'
/-- The function's end. -/
def finH (res : List RV) (Q : AV → Prop) : Fin := fun e s h _ => match e with
  | .exit _ => False
  | _ => onO (resAs s h res) fun xs => onO (dt (oneOf xs) h) fun q => clean q.1 = true ∧ Q q.1

/-- Two ways, by a Bool. -/
def gd (b want : Bool) (A B : Prop) : Prop := (b = want → A) ∧ (b = !want → B)
@[congr] theorem gd_congr {b b' want : Bool} {A B : Prop} (h : b = b') : gd b want A B = gd b' want A B := by subst h; rfl
@[simp ↓] theorem gd_tt {A B : Prop} : gd true true A B = A := by simp [gd]
@[simp ↓] theorem gd_ft {A B : Prop} : gd false true A B = B := by simp [gd]
@[simp ↓] theorem gd_tf {A B : Prop} : gd true false A B = B := by simp [gd]
@[simp ↓] theorem gd_ff {A B : Prop} : gd false false A B = A := by simp [gd]
@[simp] theorem gd_t {b : Bool} {A B : Prop} : gd b true A B = ((b = true → A) ∧ (b = false → B)) := propext Iff.rfl
@[simp] theorem gd_f {b : Bool} {A B : Prop} : gd b false A B = ((b = false → A) ∧ (b = true → B)) := propext Iff.rfl

section
variable {P : Program} {s s' : Env} {h h' : Heap} {n n' : Nat} {ks : List Kt} {Q : Fin}
@[congr] theorem onO_congr {α : Type} {x x' : Option α} {K : α → Prop} (hs : x = x') : onO x K = onO x' K := by subst hs; rfl
@[simp ↓] theorem onO_some {α : Type} {a : α} {K : α → Prop} : onO (some a) K = K a := propext Iff.rfl
@[simp ↓] theorem onO_none {α : Type} {K : α → Prop} : onO Option.none K = False := propext Iff.rfl
@[simp ↓] theorem rC_skip : rC P .skip ks s h n Q = kont P ks .normal s h n Q := propext Iff.rfl
@[simp ↓] theorem rC_reg {os : List AO} : rC P (.reg os) ks s h n Q = rO P os ks s h n Q := propext Iff.rfl
@[simp ↓] theorem rC_seq {a b : AC} : rC P (.seq a b) ks s h n Q = rC P a (.seq b :: ks) s h n Q := by
  simp only [rC, awp]; congr
@[simp ↓] theorem rC_blk {id : Nat} {a : AC} : rC P (.blk id a) ks s h n Q = rC P a (.blk id :: ks) s h n Q := by
  simp only [rC, awp]; congr
@[simp ↓] theorem rC_loop {a : AC} : rC P (.loop a) ks s h n Q = rL P a ks s h n Q := propext Iff.rfl
@[simp ↓] theorem rC_exit {id : Nat} : rC P (.exit id) ks s h n Q = kont P ks (.exit id) s h n Q := propext Iff.rfl
@[simp ↓] theorem rC_ret : rC P .ret ks s h n Q = kont P ks .ret s h n Q := propext Iff.rfl
@[simp ↓] theorem rC_draw {t : DT} : rC P (.draw t) ks s h n Q = rD P t ks s h n Q := propext Iff.rfl
@[simp ↓] theorem rC_cond {c : Opd} {a b : AC} : rC P (.cond c a b) ks s h n Q = (match ev s c with
    | .bool x => gd x true (rC P a ks s h n Q) (rC P b ks s h n Q)
    | _ => False) := propext Iff.rfl
@[simp ↓] theorem kont_nil {e : AE} : kont P [] e s h n Q = Q e s h n := propext Iff.rfl
@[simp ↓] theorem kont_seq {b : AC} : kont P (.seq b :: ks) .normal s h n Q = rC P b ks s h n Q := propext Iff.rfl
@[simp ↓] theorem kont_seq_ret {b : AC} : kont P (.seq b :: ks) .ret s h n Q = kont P ks .ret s h n Q := propext Iff.rfl
@[simp ↓] theorem kont_seq_exit {b : AC} {i : Nat} : kont P (.seq b :: ks) (.exit i) s h n Q = kont P ks (.exit i) s h n Q := propext Iff.rfl
@[simp ↓] theorem kont_blk {i : Nat} : kont P (.blk i :: ks) .normal s h n Q = kont P ks .normal s h n Q := propext Iff.rfl
@[simp ↓] theorem kont_blk_ret {i : Nat} : kont P (.blk i :: ks) .ret s h n Q = kont P ks .ret s h n Q := propext Iff.rfl
@[simp ↓] theorem kont_blk_exit {i j : Nat} : kont P (.blk i :: ks) (.exit j) s h n Q = if j = i then kont P ks .normal s h n Q else kont P ks (.exit j) s h n Q := propext Iff.rfl
@[simp ↓] theorem rO_nil : rO P [] ks s h n Q = kont P ks .normal s h n Q := propext Iff.rfl
@[simp ↓] theorem rO_cons {d : Option Nat} {op : AOp} {os : List AO} : rO P (⟨d, op, Option.none⟩ :: os) ks s h n Q = aop P s h n (nextO P os ks d s Q) op := propext Iff.rfl
@[simp ↓] theorem rO_guard {d : Option Nat} {op : AOp} {j : Nat} {want : Bool} {os : List AO} : rO P (⟨d, op, some (j, want)⟩ :: os) ks s h n Q = (match s j with
    | .bool b => gd b want (aop P (upd s j (.bool want)) h n (nextO P os ks d (upd s j (.bool want)) Q) op) (rO P os ks (setO (upd s j (.bool (!want))) d (.tup [])) h n Q)
    | .tup [] => rO P os ks (setO s d (.tup [])) h n Q
    | _ => False) := propext Iff.rfl
@[simp ↓] theorem nextO_eq {os : List AO} {d : Option Nat} {r : AV} : nextO P os ks d s Q r h n = rO P os ks (setO s d r) h n Q := propext Iff.rfl
@[simp ↓] theorem rD_fin : rD P .fin ks s h n Q = kont P ks .normal s h n Q := propext Iff.rfl
@[simp ↓] theorem rD_stuck : rD P .stuck ks s h n Q = False := propext Iff.rfl
@[simp ↓] theorem rD_both {a b : DT} : rD P (.both a b) ks s h n Q = (rD P a ks s h n Q ∧ rD P b ks s h n Q) := propext Iff.rfl
@[simp ↓] theorem rD_op {d : Option Nat} {op : AOp} {t : DT} : rD P (.op ⟨d, op, Option.none⟩ t) ks s h n Q = aopD P s h n (nextD P t ks d s Q) op := propext Iff.rfl
@[simp ↓] theorem rD_guard {d : Option Nat} {op : AOp} {j : Nat} {want : Bool} {t : DT} : rD P (.op ⟨d, op, some (j, want)⟩ t) ks s h n Q = (match s j with
    | .bool b => gd b want (aopD P (upd s j (.bool want)) h n (nextD P t ks d (upd s j (.bool want)) Q) op) (rD P t ks (setO (upd s j (.bool (!want))) d (.tup [])) h n Q)
    | .tup [] => rD P t ks (setO s d (.tup [])) h n Q
    | _ => False) := propext Iff.rfl
@[simp ↓ high] theorem rO_gtt {d : Option Nat} {op : AOp} {j : Nat} {os : List AO} (hj : s j = .bool true) : rO P (⟨d, op, some (j, true)⟩ :: os) ks s h n Q = aop P s h n (nextO P os ks d s Q) op := by
  rw [rO_guard, hj]; simp [upd_self hj]
@[simp ↓ high] theorem rD_gtt {d : Option Nat} {op : AOp} {j : Nat} {t : DT} (hj : s j = .bool true) : rD P (.op ⟨d, op, some (j, true)⟩ t) ks s h n Q = aopD P s h n (nextD P t ks d s Q) op := by
  rw [rD_guard, hj]; simp [upd_self hj]
@[simp ↓ high] theorem rO_gft {d : Option Nat} {op : AOp} {j : Nat} {os : List AO} (hj : s j = .bool false) : rO P (⟨d, op, some (j, true)⟩ :: os) ks s h n Q = rO P os ks (setO s d (.tup [])) h n Q := by
  rw [rO_guard, hj]; simp [upd_self hj]
@[simp ↓ high] theorem rD_gft {d : Option Nat} {op : AOp} {j : Nat} {t : DT} (hj : s j = .bool false) : rD P (.op ⟨d, op, some (j, true)⟩ t) ks s h n Q = rD P t ks (setO s d (.tup [])) h n Q := by
  rw [rD_guard, hj]; simp [upd_self hj]
@[simp ↓ high] theorem rO_gtf {d : Option Nat} {op : AOp} {j : Nat} {os : List AO} (hj : s j = .bool true) : rO P (⟨d, op, some (j, false)⟩ :: os) ks s h n Q = rO P os ks (setO s d (.tup [])) h n Q := by
  rw [rO_guard, hj]; simp [upd_self hj]
@[simp ↓ high] theorem rD_gtf {d : Option Nat} {op : AOp} {j : Nat} {t : DT} (hj : s j = .bool true) : rD P (.op ⟨d, op, some (j, false)⟩ t) ks s h n Q = rD P t ks (setO s d (.tup [])) h n Q := by
  rw [rD_guard, hj]; simp [upd_self hj]
@[simp ↓ high] theorem rO_gff {d : Option Nat} {op : AOp} {j : Nat} {os : List AO} (hj : s j = .bool false) : rO P (⟨d, op, some (j, false)⟩ :: os) ks s h n Q = aop P s h n (nextO P os ks d s Q) op := by
  rw [rO_guard, hj]; simp [upd_self hj]
@[simp ↓ high] theorem rD_gff {d : Option Nat} {op : AOp} {j : Nat} {t : DT} (hj : s j = .bool false) : rD P (.op ⟨d, op, some (j, false)⟩ t) ks s h n Q = aopD P s h n (nextD P t ks d s Q) op := by
  rw [rD_guard, hj]; simp [upd_self hj]
@[simp ↓] theorem nextD_eq {t : DT} {d : Option Nat} {r : AV} : nextD P t ks d s Q r h n = rD P t ks (setO s d r) h n Q := propext Iff.rfl
@[simp ↓] theorem finH_ret {res : List RV} {Q : AV → Prop} : finH res Q .ret s h n = onO (resAs s h res) fun xs => onO (dt (oneOf xs) h) fun q => clean q.1 = true ∧ Q q.1 := propext Iff.rfl
@[simp ↓] theorem finH_normal {res : List RV} {Q : AV → Prop} : finH res Q .normal s h n = onO (resAs s h res) fun xs => onO (dt (oneOf xs) h) fun q => clean q.1 = true ∧ Q q.1 := propext Iff.rfl

@[simp ↓] theorem aop_pick {K : AV → Heap → Nat → Prop} {c a b : Opd} : aop P s h n K (.pick c a b) = (match ev s c with
    | .bool c => gd c true (K (ev s a) h n) (K (ev s b) h n)
    | _ => False) := propext Iff.rfl
/-- The calls of a region that draws. -/
theorem aopD_call {f : Opd} {args : List Opd} {K : AV → Heap → Nat → Prop} : aopD P s h n K (.call f args) = (match ev s f with
    | .fn (.func f) fi ca => ACall P f (fi ++ args.map (ev s) ++ ca) h n (hK h K)
    | _ => False) := propext Iff.rfl

theorem rL_of {a : AC} (I : Nat → Env → Heap → Nat → Prop) (k : Nat) (h0 : I k s h n)
    (hs : ∀ k s h n, I k s h n → rC P a [] s h n fun e s' h' n' => match e with | .normal => ∃ k', k' < k ∧ I k' s' h' n' | e => kont P ks e s' h' n' Q) : rL P a ks s h n Q := ⟨I, ⟨k, h0⟩, hs⟩
end

/-- The plan for a function that is handed data. -/
theorem holds_of_run {P : Program} {f : FuncId} {fn : Func} {af : AFn} {as : List AV} {Q : AV → Prop} (hf : P.funcs[f]? = some fn) (hc : compFn P fn = some af) (hn : (fn.name == "runtime.NumGoroutine") = false) (hl : as.length ≤ af.nt)
    (hr : rC P af.body [] (argsE as) noHeap 0 (finH af.res Q)) : Holds P f as Q := by
  refine holds_of_acall (acall_of_body hf hc hn ⟨hl, ?_⟩)
  unfold rC at hr
  have : (fun e s h n => kont P [] e s h n (finH af.res Q)) = fun e s h n => match e with
      | .exit _ => False
      | _ => onO (resAs s h af.res) fun xs => onO (dt (oneOf xs) h) fun q => clean q.1 = true ∧ Q q.1 := by
    funext e s h n; cases e <;> rfl
  rw [this] at hr
  exact hr
theorem call_of {P : Program} {f : FuncId} {xs xs' : List AV} {h : Heap} {n : Nat} {Q : AV → Prop} {K : AV → Heap → Nat → Prop} (hh : Holds P f xs' Q) (hb : bwl xs h = some xs')
    (hK : ∀ r, Q r → K (sub r n) (addAll h n (col r)) (n + (col r).length)) : ACall P f xs h n K := acall_of_holds hh hb hK
theorem callD_of {P : Program} {f : FuncId} {xs xs' : List AV} {h : Heap} {n : Nat} {Q : AV → Prop} {K : AV → Heap → Nat → Prop} (hh : Holds P f xs' Q) (hb : bwl xs h = some xs')
    (hK' : ∀ r, Q r → K (sub r n) (addAll h n (col r)) (n + (col r).length)) : ACall P f xs h n (hK h K) := acallE_of_holds hh hb hK'

@[simp ↓] theorem aopD_mv {P : Program} {s : Env} {h : Heap} {n : Nat} {K : AV → Heap → Nat → Prop} {x} : aopD P s h n K (.mv x) = aop P s h n K (.mv x) := propext Iff.rfl
@[simp ↓] theorem aopD_pick {P : Program} {s : Env} {h : Heap} {n : Nat} {K : AV → Heap → Nat → Prop} {c} {a} {b} : aopD P s h n K (.pick c a b) = aop P s h n K (.pick c a b) := propext Iff.rfl
@[simp ↓] theorem aopD_box {P : Program} {s : Env} {h : Heap} {n : Nat} {K : AV → Heap → Nat → Prop} {z} : aopD P s h n K (.box z) = aop P s h n K (.box z) := propext Iff.rfl
@[simp ↓] theorem aopD_boxv {P : Program} {s : Env} {h : Heap} {n : Nat} {K : AV → Heap → Nat → Prop} {x} : aopD P s h n K (.boxv x) = aop P s h n K (.boxv x) := propext Iff.rfl
@[simp ↓] theorem aopD_build {P : Program} {s : Env} {h : Heap} {n : Nat} {K : AV → Heap → Nat → Prop} {z} {ps} : aopD P s h n K (.build z ps) = aop P s h n K (.build z ps) := propext Iff.rfl
@[simp ↓] theorem aopD_bsl {P : Program} {s : Env} {h : Heap} {n : Nat} {K : AV → Heap → Nat → Prop} {sz} {ps} : aopD P s h n K (.bsl sz ps) = aop P s h n K (.bsl sz ps) := propext Iff.rfl
@[simp ↓] theorem aopD_ld {P : Program} {s : Env} {h : Heap} {n : Nat} {K : AV → Heap → Nat → Prop} {g} {sz} {x} : aopD P s h n K (.ld g sz x) = aop P s h n K (.ld g sz x) := propext Iff.rfl
@[simp ↓] theorem aopD_st {P : Program} {s : Env} {h : Heap} {n : Nat} {K : AV → Heap → Nat → Prop} {sz} {a} {x} : aopD P s h n K (.st sz a x) = aop P s h n K (.st sz a x) := propext Iff.rfl
@[simp ↓] theorem aopD_nchk {P : Program} {s : Env} {h : Heap} {n : Nat} {K : AV → Heap → Nat → Prop} {x} : aopD P s h n K (.nchk x) = aop P s h n K (.nchk x) := propext Iff.rfl
@[simp ↓] theorem aopD_bin {P : Program} {s : Env} {h : Heap} {n : Nat} {K : AV → Heap → Nat → Prop} {op} {x} {y} : aopD P s h n K (.bin op x y) = aop P s h n K (.bin op x y) := propext Iff.rfl
@[simp ↓] theorem aopD_beq {P : Program} {s : Env} {h : Heap} {n : Nat} {K : AV → Heap → Nat → Prop} {g} {x} {y} : aopD P s h n K (.beq g x y) = aop P s h n K (.beq g x y) := propext Iff.rfl
@[simp ↓] theorem aopD_un {P : Program} {s : Env} {h : Heap} {n : Nat} {K : AV → Heap → Nat → Prop} {op} {x} : aopD P s h n K (.un op x) = aop P s h n K (.un op x) := propext Iff.rfl
@[simp ↓] theorem aopD_cvi {P : Program} {s : Env} {h : Heap} {n : Nat} {K : AV → Heap → Nat → Prop} {k} {x} : aopD P s h n K (.cvi k x) = aop P s h n K (.cvi k x) := propext Iff.rfl
@[simp ↓] theorem aopD_cvb {P : Program} {s : Env} {h : Heap} {n : Nat} {K : AV → Heap → Nat → Prop} {x} : aopD P s h n K (.cvb x) = aop P s h n K (.cvb x) := propext Iff.rfl
@[simp ↓] theorem aopD_mkf {P : Program} {s : Env} {h : Heap} {n : Nat} {K : AV → Heap → Nat → Prop} {f} {fi} {ca} : aopD P s h n K (.mkf f fi ca) = aop P s h n K (.mkf f fi ca) := propext Iff.rfl
@[simp ↓] theorem aopD_mks {P : Program} {s : Env} {h : Heap} {n : Nat} {K : AV → Heap → Nat → Prop} {b} {z} {l} {c} : aopD P s h n K (.mks b z l c) = aop P s h n K (.mks b z l c) := propext Iff.rfl
@[simp ↓] theorem aopD_slc {P : Program} {s : Env} {h : Heap} {n : Nat} {K : AV → Heap → Nat → Prop} {st} {sz} {x} {lo} {hi} : aopD P s h n K (.slc st sz x lo hi) = aop P s h n K (.slc st sz x lo hi) := propext Iff.rfl
@[simp ↓] theorem aopD_fld {P : Program} {s : Env} {h : Heap} {n : Nat} {K : AV → Heap → Nat → Prop} {o} {x} : aopD P s h n K (.fld o x) = aop P s h n K (.fld o x) := propext Iff.rfl
@[simp ↓] theorem aopD_prt {P : Program} {s : Env} {h : Heap} {n : Nat} {K : AV → Heap → Nat → Prop} {g} {o} {sz} {x} : aopD P s h n K (.prt g o sz x) = aop P s h n K (.prt g o sz x) := propext Iff.rfl
@[simp ↓] theorem aopD_ixa {P : Program} {s : Env} {h : Heap} {n : Nat} {K : AV → Heap → Nat → Prop} {sz} {x} {i} : aopD P s h n K (.ixa sz x i) = aop P s h n K (.ixa sz x i) := propext Iff.rfl
@[simp ↓] theorem aopD_ixs {P : Program} {s : Env} {h : Heap} {n : Nat} {K : AV → Heap → Nat → Prop} {x} {i} : aopD P s h n K (.ixs x i) = aop P s h n K (.ixs x i) := propext Iff.rfl
@[simp ↓] theorem aopD_ext {P : Program} {s : Env} {h : Heap} {n : Nat} {K : AV → Heap → Nat → Prop} {x} {i} : aopD P s h n K (.ext x i) = aop P s h n K (.ext x i) := propext Iff.rfl
@[simp ↓] theorem aopD_app {P : Program} {s : Env} {h : Heap} {n : Nat} {K : AV → Heap → Nat → Prop} {b} {sz} {x} {y} : aopD P s h n K (.app b sz x y) = aop P s h n K (.app b sz x y) := propext Iff.rfl
@[simp ↓] theorem aopD_mnx {P : Program} {s : Env} {h : Heap} {n : Nat} {K : AV → Heap → Nat → Prop} {m} {x} {y} : aopD P s h n K (.mnx m x y) = aop P s h n K (.mnx m x y) := propext Iff.rfl
@[simp ↓] theorem aopD_len {P : Program} {s : Env} {h : Heap} {n : Nat} {K : AV → Heap → Nat → Prop} {g : Bool} {x : Opd} : aopD P s h n K (.len g x) = (match g, ev s x with
    | true, .str l => K (.int .i64 l.length) h n
    | false, .sl _ rows => K (.int .i64 rows.length) h n
    | false, .ref id _ len => (h id).isSome = true ∧ K (.int .i64 len) h n
    | false, .nil _ => K (.int .i64 0) h n
    | _, _ => False) := propext Iff.rfl

attribute [simp] dtl col coll sub subl addAll bw bwl cleanl cleanr drl drr dr aop aopD_call ev setO upd argsE cellsOf isCell rowD ldv resAs resA1 oneOf dt clean binI asI splice i64 ints
@[simp] theorem intsR_length (l : List Int) : (intsR l).length = l.length := by simp [intsR]
@[simp] theorem intsR_get (l : List Int) (i : Nat) : (intsR l)[i]? = (l[i]?).map fun n => [i64 n] := by simp [intsR]
@[simp] theorem intsR_getElem (l : List Int) (i : Nat) (h : i < (intsR l).length) : (intsR l)[i] = [i64 (l[i]'(by simpa using h))] := by simp [intsR]
@[simp] theorem drr_intsR (l : List Int) : drr (intsR l) = intsR l := by rw [drr_eq]; simp [intsR, drl, dr, i64]
@[simp] theorem clean_intsR (l : List Int) : cleanr (intsR l) = true := by rw [cleanr_iff]; simp [intsR, cleanl, clean, i64]
@[simp] theorem upd_upd {α : Type} (f : Nat → α) (k : Nat) (a b : α) : upd (upd f k a) k b = upd f k b := by funext i; simp only [upd]; split <;> rfl
@[simp] theorem take_intsR (l : List Int) : List.take l.length (intsR l) = intsR l := List.take_of_length_le (by simp)
theorem wrap64 {x : Int} (h : -9223372036854775808 ≤ x ∧ x < 9223372036854775808) : IntKind.i64.wrap x = x := by
  rw [IntKind.wrap_i64]; omega
end Go.Proofs.Ytlefdibgonpoaaa
