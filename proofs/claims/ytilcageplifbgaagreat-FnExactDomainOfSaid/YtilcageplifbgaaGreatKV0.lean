/- What a valid rule, a valid program is: plain definitions and laws. -/
import Derived.Test.YtilcageplifbgaaGreatKC12
import Derived.Test.YtilcageplifbgaaGreatKC14
namespace Go.Proofs.YtilcageplifbgaaGreat
set_option linter.all false
open Go Go.RowKit Go.Proofs
theorem setO_s {s : Env} {k : Nat} {v : AV} : setO s (some k) v k = v := by simp
theorem setO_n {s : Env} {k j : Nat} {v : AV} (hj : ¬ j = k) : setO s (some k) v j = s j := by simp [hj]
theorem upd_s {α : Type} {f : Nat → α} {k : Nat} {v : α} : upd f k v k = v := by simp
theorem upd_n {α : Type} {f : Nat → α} {k j : Nat} {v : α} (hj : ¬ j = k) : upd f k v j = f j := by simp [hj]
attribute [simp ↓ high] setO_s setO_n upd_s upd_n
def ldv1 (raw : Bool) (o : Option AV) : Option AV := if raw then o else o.map dr
@[simp ↓ high] theorem ldv1_t (o : Option AV) : ldv1 true o = o := by unfold ldv1; rw [if_pos (by simp)]
@[simp ↓ high] theorem ldv1_f (o : Option AV) : ldv1 false o = o.map dr := by unfold ldv1; rw [if_neg (by simp)]
def ldvG (raw b : Bool) (l : List AV) : Option AV := if b then some (.agg (if raw then l else drl l)) else Option.none
@[simp ↓ high] theorem ldvG_t (l : List AV) : ldvG true true l = some (.agg l) := by unfold ldvG; rw [if_pos (by simp), if_pos (by simp)]
@[simp ↓ high] theorem ldv_1 (raw : Bool) (row : List AV) (c : Nat) : ldv raw false row c 1 = ldv1 raw (row[c]?) := by
  unfold ldv ldv1
  by_cases h : c < row.length
  · rw [if_pos (by omega), if_neg (by simp), if_pos rfl, List.getElem?_eq_getElem h]; cases raw <;> simp
  · rw [if_neg (by omega), List.getElem?_eq_none (by omega)]; cases raw <;> rfl
@[simp ↓ high] theorem ldv_G (raw : Bool) (row : List AV) (c sz : Nat) : ldv raw true row c sz = ldvG raw (decide (c + sz ≤ row.length)) ((row.drop c).take sz) := by
  unfold ldv ldvG
  by_cases h : c + sz ≤ row.length
  · simp [h]
  · simp [h]
def cutK (P : Program) (ks : List Kt) (Q : Fin) (keep : List Nat) (J : Env → Prop) (s0 : Env) (h0 : Heap) (n0 : Nat) : Fin := fun e s h n => match e with
  | .normal => (∀ j ∈ keep, s j = s0 j) ∧ J s ∧ h = h0 ∧ n = n0
  | e => kont P ks e s h n Q
section
variable {P : Program} {a b : AC} {ks : List Kt} {s : Env} {h : Heap} {n : Nat} {Q : Fin}
@[simp ↓] theorem cutK_normal {keep : List Nat} {J : Env → Prop} {s0 s' : Env} {h0 h' : Heap} {n0 n' : Nat} : cutK P ks Q keep J s0 h0 n0 .normal s' h' n' = ((∀ j ∈ keep, s' j = s0 j) ∧ J s' ∧ h' = h0 ∧ n' = n0) := propext Iff.rfl
@[simp ↓] theorem cutK_ret {keep : List Nat} {J : Env → Prop} {s0 s' : Env} {h0 h' : Heap} {n0 n' : Nat} : cutK P ks Q keep J s0 h0 n0 .ret s' h' n' = kont P ks .ret s' h' n' Q := propext Iff.rfl
@[simp ↓] theorem cutK_exit {keep : List Nat} {J : Env → Prop} {s0 s' : Env} {h0 h' : Heap} {n0 n' i : Nat} : cutK P ks Q keep J s0 h0 n0 (.exit i) s' h' n' = kont P ks (.exit i) s' h' n' Q := propext Iff.rfl
theorem rC_cut (keep : List Nat) (J : Env → Prop) (h1 : rC P a [] s h n (cutK P (.seq b :: ks) Q keep J s h n)) (h2 : ∀ s', (∀ j ∈ keep, s' j = s j) → J s' → rC P b ks s' h n Q) : rC P (.seq a b) ks s h n Q := by
  rw [rC_seq]
  unfold rC at h1 ⊢
  refine awp_mono h1 ?_
  intro e s' h' n' hq
  cases e
  · obtain ⟨g1, g2, rfl, rfl⟩ := hq
    exact h2 s' g1 g2
  · exact hq
  · exact hq
def cutH (P : Program) (ks : List Kt) (Q : Fin) (keep : List Nat) (J : Env → Heap → Nat → Prop) (s0 : Env) : Fin := fun e s h n => match e with
  | .normal => (∀ j ∈ keep, s j = s0 j) ∧ J s h n
  | e => kont P ks e s h n Q
@[simp ↓] theorem cutH_normal {keep : List Nat} {J : Env → Heap → Nat → Prop} {s0 s' : Env} {h' : Heap} {n' : Nat} : cutH P ks Q keep J s0 .normal s' h' n' = ((∀ j ∈ keep, s' j = s0 j) ∧ J s' h' n') := propext Iff.rfl
@[simp ↓] theorem cutH_ret {keep : List Nat} {J : Env → Heap → Nat → Prop} {s0 s' : Env} {h' : Heap} {n' : Nat} : cutH P ks Q keep J s0 .ret s' h' n' = kont P ks .ret s' h' n' Q := propext Iff.rfl
@[simp ↓] theorem cutH_exit {keep : List Nat} {J : Env → Heap → Nat → Prop} {s0 s' : Env} {h' : Heap} {n' i : Nat} : cutH P ks Q keep J s0 (.exit i) s' h' n' = kont P ks (.exit i) s' h' n' Q := propext Iff.rfl
theorem rC_cutH (keep : List Nat) (J : Env → Heap → Nat → Prop) (h1 : rC P a [] s h n (cutH P (.seq b :: ks) Q keep J s)) (h2 : ∀ s' h' n', (∀ j ∈ keep, s' j = s j) → J s' h' n' → rC P b ks s' h' n' Q) : rC P (.seq a b) ks s h n Q := by
  rw [rC_seq]
  unfold rC at h1 ⊢
  refine awp_mono h1 ?_
  intro e s' h' n' hq
  cases e
  · exact h2 s' h' n' hq.1 hq.2
  · exact hq
  · exact hq
theorem rC_pass {c : Nat} {e : AC} (hc : s c = .bool true) (h1 : rC P b ks s h n Q) : rC P (.seq (.cond (.t c) .skip e) b) ks s h n Q := by
  rw [rC_seq, rC_cond]
  have : ev s (.t c) = .bool true := hc
  rw [this]
  simpa using h1
theorem rC_stop {c id : Nat} (hc : s c = .bool false) (h1 : kont P ks (.exit id) s h n Q) : rC P (.seq (.cond (.t c) .skip (.exit id)) b) ks s h n Q := by
  rw [rC_seq, rC_cond]
  have : ev s (.t c) = .bool false := hc
  rw [this]
  simpa using h1
theorem rC_pass1 {c : Nat} {e : AC} {ks : List Kt} (hc : s c = .bool true) (h1 : kont P ks .normal s h n Q) : rC P (.cond (.t c) .skip e) ks s h n Q := by
  rw [rC_cond]
  have : ev s (.t c) = .bool true := hc
  rw [this]
  simpa using h1
theorem rC_stop1 {c id : Nat} {ks : List Kt} (hc : s c = .bool false) (h1 : kont P ks (.exit id) s h n Q) : rC P (.cond (.t c) .skip (.exit id)) ks s h n Q := by
  rw [rC_cond]
  have : ev s (.t c) = .bool false := hc
  rw [this]
  simpa using h1
theorem rC_blkI {id : Nat} (h1 : rC P a (.blk id :: ks) s h n Q) : rC P (.blk id a) ks s h n Q := by rw [rC_blk]; exact h1
theorem rC_seqI (h1 : rC P a (.seq b :: ks) s h n Q) : rC P (.seq a b) ks s h n Q := by rw [rC_seq]; exact h1
end
def letterB (c : UInt8) : Bool := decide ((97 : Int) ≤ c.toNat) && decide ((c.toNat : Int) ≤ 122)
def digitB (c : UInt8) : Bool := decide ((48 : Int) ≤ c.toNat) && decide ((c.toNat : Int) ≤ 57)
def shapeFrom : Nat → Str → Bool
  | _, [] => true
  | i, c :: l => (letterB c || (decide (i ≠ 0) && digitB c)) && shapeFrom (i + 1) l
def hasS (l : List Str) (s : Str) : Bool := l.any fun x => x == s
def resvL : List Str := [[102, 117, 110], [112, 114, 101], [114, 117, 108, 101], [114, 101, 116, 117, 114, 110], [110, 105, 108]]
def resv (s : Str) : Bool := hasS resvL s
def okName (s : Str) : Bool := inR s.length 1 8 && !resv s && shapeFrom 0 s
def listName (s : Str) : Bool := okName s && s.getD (s.length - 1) 0 == 115
def intName (s : Str) : Bool := okName s && !listName s
def fits (n : Int) : Bool := inR n (-1000000) 1000000
theorem okName_len {s : Str} (h : okName s = true) : 1 ≤ s.length ∧ s.length ≤ 8 := by
  unfold okName inR at h; simp at h; omega
def termsOk : Option Str → List DTerm → Bool
  | _, [] => true
  | pr, t :: l => (!(t.Coeff == 0) && fits t.Coeff && intName t.Name && (match pr with | Option.none => true | some q => Op.bytesLess q t.Name)) && termsOk (some t.Name) l
def okSum (s : DSum) : Bool := fits s.Const && decide (s.Terms.length ≤ 4) && termsOk Option.none s.Terms
def okArg (a : DArg) : Bool := a.Heads.all okSum && (if a.Lst then decide (a.Heads.length ≤ 3) && (a.Base == [] || listName a.Base) else decide (a.Heads.length = 1) && a.Base == [])
def allS (l : List Str) (scope : List Str) : Bool := l.all (hasS scope)
def argOk (a : DArg) (list : Bool) (scope : List Str) : Bool := okArg a && (a.Lst == list) && allS (snames (argN0 a)) scope
def guardOk (scope : List Str) (g : DSum) : Bool := okSum g && allS (termN g) scope
def distFrom (met : List Str) : List Str → Bool
  | [] => true
  | s :: l => !hasS met s && distFrom (met ++ [s]) l
def distB (l : List Str) : Bool := distFrom [] l
def patB (params : List Str) (q : DPattern) : Bool := hasS params q.Lst && listName q.Lst && (if q.Cons then intName q.Head && listName q.Tail else q.Head == [] && q.Tail == [])
def patsFrom (params : List Str) (met : List Str) : List DPattern → Bool
  | [] => true
  | q :: l => (patB params q && !hasS met q.Lst) && patsFrom params (met ++ [q.Lst]) l
def argsOk (scope : List Str) : List DArg → List Str → Bool
  | a :: l, s :: m => argOk a (listName s) scope && argsOk scope l m
  | _, _ => true
def callB (p : DProgram) (c : DCall) (scope : List Str) : Bool :=
  (findFn p.Functions c.Func).isSome && decide (c.Args.length = ((findFn p.Functions c.Func).getD fn0).Params.length) && (if ((findFn p.Functions c.Func).getD fn0).ListResult then listName c.Bind else intName c.Bind) &&
    argsOk scope c.Args ((findFn p.Functions c.Func).getD fn0).Params
def callsFrom (p : DProgram) (r : DRule) : Nat → List DCall → Bool
  | _, [] => true
  | k, c :: l => callB p c (scopeOf p r k) && callsFrom p r (k + 1) l
def ruleOk (p : DProgram) (r : DRule) : Bool :=
  (findFn p.Functions r.Func).isSome && patsFrom ((findFn p.Functions r.Func).getD fn0).Params [] r.Patterns && decide (r.Guards.length ≤ 2) && r.Guards.all (guardOk (scopeOf p r 0)) && decide (r.Calls.length ≤ 2) &&
    callsFrom p r 0 r.Calls && argOk r.Result ((findFn p.Functions r.Func).getD fn0).ListResult (scopeOf p r r.Calls.length) && distB (scopeOf p r r.Calls.length)
def fnOk (f : DFunction) : Bool := intName f.Name && decide (f.Params.length ≤ 2) && (f.Params.all okName && distB f.Params) && decide (f.Pre.length ≤ 2) && f.Pre.all fun l => okLin l f.Params.length
def fnsFrom (met : List Str) : List DFunction → Bool
  | [] => true
  | f :: l => (fnOk f && !hasS met f.Name) && fnsFrom (met ++ [f.Name]) l
def progOk (p : DProgram) : Bool := inR p.Functions.length 1 3 && fnsFrom [] p.Functions && decide (p.Rules.length ≤ 8) && p.Rules.all (ruleOk p)
theorem fnsFrom_eq : ∀ (l : List DFunction) (met : List Str), fnsFrom met l = (l.all fnOk && distFrom met (l.map (·.Name)))
  | [], met => rfl
  | f :: l, met => by
    simp only [fnsFrom, fnsFrom_eq l, List.all_cons, List.map_cons, distFrom]
    cases fnOk f <;> cases hasS met f.Name <;> simp
theorem all_mem {α : Type} {p : α → Bool} {l m : List α} (h : ∀ x, x ∈ l ↔ x ∈ m) : l.all p = m.all p := by
  rw [Bool.eq_iff_iff, List.all_eq_true, List.all_eq_true]
  exact ⟨fun g x hx => g x ((h x).2 hx), fun g x hx => g x ((h x).1 hx)⟩
theorem allS_snames (l scope : List Str) : allS (snames l) scope = allS l scope := all_mem (snames_spec l).2
theorem argN0_guard (s : DSum) : argN0 ⟨false, [s], []⟩ = termN s := by simp [argN0, sumsN]
theorem okArg_guard (s : DSum) : okArg ⟨false, [s], []⟩ = okSum s := by simp [okArg]
def withoutL (l scope : List Str) : List Str := l.filter fun s => !hasS scope s
theorem withoutL_nil (l scope : List Str) : decide ((withoutL l scope).length = 0) = allS l scope := by
  unfold withoutL allS
  induction l with
  | nil => rfl
  | cons x l ih =>
    simp only [List.filter_cons, List.all_cons]
    cases hx : hasS scope x
    · simp
    · simp only [Bool.not_true, Bool.false_eq_true, if_false, Bool.true_and]; exact ih
theorem idx_first {l : List DFunction} {i : Nat} (hi : i < l.length) : decide (idxFrom (fun f => f.Name == (l[i]).Name) l 0 = (i : Int)) = !hasS ((l.take i).map (·.Name)) (l[i]).Name := by
  have key : ∀ (l : List DFunction) (i k : Nat) (hi : i < l.length) (nm : Str), (l[i]).Name = nm → (idxFrom (fun f => f.Name == nm) l k = ((k + i : Nat) : Int) ↔ hasS ((l.take i).map (·.Name)) nm = false) := by
    intro l
    induction l with
    | nil => intro i k hi; simp at hi
    | cons f l ih =>
      intro i k hi nm hnm
      cases i with
      | zero =>
        simp only [List.getElem_cons_zero] at hnm
        simp [idxFrom, hnm, hasS]
      | succ i =>
        simp only [List.getElem_cons_succ] at hnm
        simp only [idxFrom, List.take_succ_cons, List.map_cons, hasS, List.any_cons]
        by_cases hf : f.Name == nm
        · simp [hf]; omega
        · have := ih i (k + 1) (by simpa using hi) nm hnm
          simp only [hasS] at this
          simp only [hf, Bool.false_eq_true, if_false, Bool.false_or]
          rw [← this]
          constructor <;> intro h <;> rw [h] <;> congr 1 <;> omega
  have := key l i 0 hi _ rfl
  rw [Nat.zero_add] at this
  cases hb : hasS ((l.take i).map (·.Name)) (l[i]).Name
  · simp [this.2 hb]
  · simp only [Bool.not_true, decide_eq_false_iff_not]
    intro h
    rw [this.1 h] at hb; cases hb
end Go.Proofs.YtilcageplifbgaaGreat
