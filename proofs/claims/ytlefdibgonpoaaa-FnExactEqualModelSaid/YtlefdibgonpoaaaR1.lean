/- Abstract values and how the model's values and memory stand for them. -/
import Derived.Laws.AppendOwn
import Derived.Below
import Derived.Calls
import Derived.KernelRfl
namespace Go.Proofs.Ytlefdibgonpoaaa
open Go Go.RowKit

/-- The greatest length that a slice may have. -/
def LIM : Nat := 140737488355328

inductive AV where
  | undef
  | int (k : IntKind) (n : Int)
  | bool (b : Bool)
  | str (s : List UInt8)
  | nil (sz : Nat)
  | nilp
  | ptr (id row col : Nat)
  | fptr (row : List AV) (col : Nat)
  | ref (id off len : Nat)
  | sl (sz : Nat) (rows : List (List AV))
  | us (sz : Nat) (rows : List (List AV))
  | fn (f : Fn) (first cap : List AV)
  | mp (id : Nat)
  | agg (cells : List AV)
  | tup (vs : List AV)
  deriving Inhabited

/-- Where a block of the abstract heap lies. -/
inductive Loc where
  | none
  | at (b sz cap : Nat)

def Own (L : Nat → Option Loc) (b : Nat) : Prop := ∃ id sz cap, L id = some (.at b sz cap)

def cellsAt (w : World) (b o : Nat) (vals : List Value) : Prop := ∀ j v, vals[j]? = some v → w.cell? ⟨b, o + j, Option.none⟩ = some v

def one (vals : List Value) : Prop := ∀ v ∈ vals, v.oneCell' = true

def RefAt (l : Loc) (off len : Nat) (v : Value) : Prop :=
  len ≤ LIM ∧ match l with
  | .none => off = 0 ∧ len = 0 ∧ v = .slice Option.none 0 0
  | .at b sz cap => ∃ A, v = .slice A len (cap - off) ∧ (0 < len ∨ off = 0 → A = some ⟨b, off * sz, Option.none⟩) ∧ off + len ≤ cap

def PtrAt (l : Loc) (r c : Nat) (v : Value) : Prop :=
  match l with
  | .none => False
  | .at b sz _ => v = .pointer (some ⟨b, r * sz + c, Option.none⟩)

mutual
def VR (w : World) (L : Nat → Option Loc) : (N : Nat) → AV → Value → List Nat → Prop
  | _, .undef, _, S => S = []
  | _, .int k n, v, S => v = .int k n ∧ S = []
  | _, .bool b, v, S => v = .bool b ∧ S = []
  | _, .str s, v, S => (∃ b : ByteArray, v = .string b ∧ b.data.toList = s ∧ s.length ≤ LIM) ∧ S = []
  | _, .nil _, v, S => v = .slice Option.none 0 0 ∧ S = []
  | _, .nilp, v, S => v = .pointer Option.none ∧ S = []
  | N, .ptr id r c, v, S => (id < N ∧ v.oneCell' = true ∧ ∀ l, L id = some l → PtrAt l r c v) ∧ S = []
  | _, .fptr row c, v, S => (∃ b o vals, v = .pointer (some ⟨b, o + c, Option.none⟩) ∧ ¬ Own L b ∧ b < w.heap.size ∧ cellsAt w b o vals ∧ one vals ∧ VRl w L 0 row vals []) ∧ S = []
  | N, .ref id off len, v, S => (id < N ∧ v.oneCell' = true ∧ ∀ l, L id = some l → RefAt l off len v) ∧ S = []
  | _, .sl sz rows, v, S => (∃ A cap vals, v = .slice A rows.length cap ∧ (rows.length ≤ LIM ∧ rows.length ≤ cap) ∧ VRr w L 0 rows vals [] ∧
      (rows = [] ∨ ∃ b o, A = some ⟨b, o, Option.none⟩ ∧ ¬ Own L b ∧ b < w.heap.size ∧ (∀ r ∈ rows, r.length = sz) ∧ cellsAt w b o vals ∧ one vals)) ∧ S = []
  | _, .us sz rows, v, S => rows.length ≤ LIM ∧ ((v = .slice Option.none 0 0 ∧ rows = [] ∧ S = []) ∨
      ∃ b cap cur e vals rest S', v = .slice (some ⟨b, 0, Option.none⟩) rows.length cap ∧ S = b :: S' ∧ ¬ Own L b ∧ w.heap[b]? = some (.cells cur e (0, 0)) ∧
        cur.toList = vals ++ rest ∧ cur.size = cap * sz ∧ 0 < sz ∧ rows.length ≤ cap ∧ cap ≤ maxLen ∧ (∀ r ∈ rows, r.length = sz) ∧ one vals ∧ VRr w L 0 rows vals S')
  | N, .fn f fi ca, v, S => (∃ x y, v = .func f x y ∧ VRl w L N fi x.toList [] ∧ VRl w L N ca y.toList []) ∧ S = []
  | _, .mp _, _, _ => False
  | N, .agg cs, v, S => ∃ vs, v = .agg vs ∧ VRl w L N cs vs.toList S
  | N, .tup cs, v, S => ∃ vs, v = .tuple vs ∧ VRl w L N cs vs.toList S
def VRl (w : World) (L : Nat → Option Loc) : (N : Nat) → List AV → List Value → List Nat → Prop
  | _, [], vs, S => vs = [] ∧ S = []
  | N, a :: as, vs, S => ∃ v vs' S1 S2, vs = v :: vs' ∧ S = S1 ++ S2 ∧ VR w L N a v S1 ∧ VRl w L N as vs' S2
def VRr (w : World) (L : Nat → Option Loc) : (N : Nat) → List (List AV) → List Value → List Nat → Prop
  | _, [], vs, S => vs = [] ∧ S = []
  | N, r :: rs, vs, S => ∃ vs1 vs2 S1 S2, vs = vs1 ++ vs2 ∧ S = S1 ++ S2 ∧ VRl w L N r vs1 S1 ∧ VRr w L N rs vs2 S2
end


section lists
variable {w : World} {L : Nat → Option Loc} {N : Nat}

theorem VRl_append {as bs : List AV} : ∀ {vs : List Value} {S : List Nat}, VRl w L N (as ++ bs) vs S ↔
    ∃ vs1 vs2 S1 S2, vs = vs1 ++ vs2 ∧ S = S1 ++ S2 ∧ VRl w L N as vs1 S1 ∧ VRl w L N bs vs2 S2 := by
  induction as with
  | nil =>
    intro vs S
    constructor
    · intro h; exact ⟨[], vs, [], S, rfl, rfl, ⟨rfl, rfl⟩, h⟩
    · rintro ⟨vs1, vs2, S1, S2, rfl, rfl, ⟨rfl, rfl⟩, h⟩; exact h
  | cons a as ih =>
    intro vs S
    simp only [List.cons_append, VRl]
    constructor
    · rintro ⟨v, vs', S1, S2, rfl, rfl, h1, h2⟩
      obtain ⟨vs1, vs2, T1, T2, rfl, rfl, h3, h4⟩ := ih.1 h2
      exact ⟨v :: vs1, vs2, S1 ++ T1, T2, rfl, by simp, ⟨v, vs1, S1, T1, rfl, rfl, h1, h3⟩, h4⟩
    · rintro ⟨vs1, vs2, S1, S2, rfl, rfl, ⟨v, vs', T1, T2, rfl, rfl, h1, h2⟩, h3⟩
      exact ⟨v, vs' ++ vs2, T1, T2 ++ S2, rfl, by simp, h1, ih.2 ⟨vs', vs2, T2, S2, rfl, rfl, h2, h3⟩⟩

theorem VRr_iff {rows : List (List AV)} : ∀ {vs : List Value} {S : List Nat}, VRr w L N rows vs S ↔ VRl w L N rows.flatten vs S := by
  induction rows with
  | nil => intro vs S; simp [VRr, VRl]
  | cons r rs ih =>
    intro vs S
    simp only [VRr, List.flatten_cons, VRl_append, ih]

theorem VRl_length {as : List AV} : ∀ {vs : List Value} {S : List Nat}, VRl w L N as vs S → vs.length = as.length := by
  induction as with
  | nil => rintro vs S ⟨rfl, _⟩; rfl
  | cons a as ih => rintro vs S ⟨v, vs', S1, S2, rfl, _, _, h⟩; simp [ih h]

theorem VRl_split {as : List AV} : ∀ {vs : List Value} {S : List Nat} {i : Nat} {a : AV}, VRl w L N as vs S → as[i]? = some a →
    ∃ v S1 S2 S3, vs[i]? = some v ∧ S = S1 ++ (S2 ++ S3) ∧ VR w L N a v S2 ∧ ∀ a' v' S', VR w L N a' v' S' → VRl w L N (as.set i a') (vs.set i v') (S1 ++ (S' ++ S3)) := by
  induction as with
  | nil => intro vs S i a _ h; simp at h
  | cons b as ih =>
    rintro vs S i a ⟨v, vs', S1, S2, rfl, rfl, h1, h2⟩ hi
    cases i with
    | zero =>
      simp only [List.getElem?_cons_zero, Option.some.injEq] at hi
      subst hi
      exact ⟨v, [], S1, S2, rfl, rfl, h1, fun a' v' S' h => ⟨v', vs', S', S2, rfl, rfl, h, h2⟩⟩
    | succ i =>
      simp only [List.getElem?_cons_succ] at hi
      obtain ⟨u, T1, T2, T3, g1, rfl, g3, g4⟩ := ih h2 hi
      exact ⟨u, S1 ++ T1, T2, T3, by simpa using g1, by simp, g3, fun a' v' S' h => ⟨v, _, S1, _, rfl, by simp, h1, g4 a' v' S' h⟩⟩

theorem VRl_get {as : List AV} {vs : List Value} {S : List Nat} {i : Nat} {a : AV} (h : VRl w L N as vs S) (hi : as[i]? = some a) :
    ∃ v S', vs[i]? = some v ∧ VR w L N a v S' ∧ ∀ b ∈ S', b ∈ S := by
  obtain ⟨v, S1, S2, S3, g1, rfl, g3, _⟩ := VRl_split h hi
  exact ⟨v, S2, g1, g3, fun b hb => by simp [hb]⟩

theorem VRl_get_nil {as : List AV} {vs : List Value} {i : Nat} {a : AV} (h : VRl w L N as vs []) (hi : as[i]? = some a) :
    ∃ v, vs[i]? = some v ∧ VR w L N a v [] := by
  obtain ⟨v, S', g1, g2, g3⟩ := VRl_get h hi
  have : S' = [] := List.eq_nil_iff_forall_not_mem.2 fun b hb => by simpa using g3 b hb
  subst this
  exact ⟨v, g1, g2⟩

theorem VRl_nil_append {as bs : List AV} {vs : List Value} : VRl w L N (as ++ bs) vs [] ↔
    ∃ vs1 vs2, vs = vs1 ++ vs2 ∧ VRl w L N as vs1 [] ∧ VRl w L N bs vs2 [] := by
  rw [VRl_append]
  constructor
  · rintro ⟨vs1, vs2, S1, S2, rfl, hS, h1, h2⟩
    obtain ⟨rfl, rfl⟩ := List.append_eq_nil_iff.1 hS.symm
    exact ⟨vs1, vs2, rfl, h1, h2⟩
  · rintro ⟨vs1, vs2, rfl, h1, h2⟩
    exact ⟨vs1, vs2, [], [], rfl, rfl, h1, h2⟩

theorem VRl_nil_cons {a : AV} {as : List AV} {vs : List Value} : VRl w L N (a :: as) vs [] ↔
    ∃ v vs', vs = v :: vs' ∧ VR w L N a v [] ∧ VRl w L N as vs' [] := by
  simp only [VRl]
  constructor
  · rintro ⟨v, vs', S1, S2, rfl, hS, h1, h2⟩
    obtain ⟨rfl, rfl⟩ := List.append_eq_nil_iff.1 hS.symm
    exact ⟨v, vs', rfl, h1, h2⟩
  · rintro ⟨v, vs', rfl, h1, h2⟩
    exact ⟨v, vs', [], [], rfl, rfl, h1, h2⟩
end lists

/-! What a step may turn: blocks that are owned, and new ones. -/
structure Ext (w : World) (L : Nat → Option Loc) (N : Nat) (w' : World) (L' : Nat → Option Loc) (N' : Nat) : Prop where
  n : N ≤ N'
  old : ∀ id l, id < N → L' id = some l → L id = some l
  size : w.heap.size ≤ w'.heap.size
  block : ∀ b, b < w.heap.size → ¬ Own L b → w'.heap[b]? = w.heap[b]? ∧ ¬ Own L' b

theorem cellsAt_of_block {w w' : World} {b o : Nat} {vals : List Value} (h : w'.heap[b]? = w.heap[b]?) (hc : cellsAt w b o vals) : cellsAt w' b o vals := by
  intro j v hj
  rw [World.cell?_of_block (w := w) (w' := w') (a := ⟨b, o + j, Option.none⟩) h]
  exact hc j v hj

theorem lt_of_heap {w : World} {b : Nat} {x : Obj} (h : w.heap[b]? = some x) : b < w.heap.size := (Array.getElem?_eq_some_iff.1 h).1

theorem Ext.zero {w : World} {L : Nat → Option Loc} {N : Nat} {w' : World} {L' : Nat → Option Loc} {N' : Nat} (e : Ext w L N w' L' N') : Ext w L 0 w' L' 0 :=
  ⟨Nat.le_refl _, fun _ _ h _ => absurd h (Nat.not_lt_zero _), e.size, e.block⟩

section ext
variable {w : World} {L : Nat → Option Loc} {w' : World} {L' : Nat → Option Loc}
mutual
theorem VR_ext : ∀ {N N' : Nat} (_e : Ext w L N w' L' N') (a : AV) (v : Value) (S : List Nat), VR w L N a v S → VR w' L' N' a v S
  | _, _, _, .undef, _, _, h => by simpa only [VR] using h
  | _, _, e, .int .., _, _, h => by simpa only [VR] using h
  | _, _, e, .bool _, _, _, h => by simpa only [VR] using h
  | _, _, e, .str _, _, _, h => by simpa only [VR] using h
  | _, _, e, .nil _, _, _, h => by simpa only [VR] using h
  | _, _, e, .nilp, _, _, h => by simpa only [VR] using h
  | _, _, e, .mp _, _, _, h => by simp only [VR] at h
  | _, _, e, .ptr id r c, v, S, h => by
    simp only [VR] at h ⊢
    exact ⟨⟨Nat.lt_of_lt_of_le h.1.1 e.n, h.1.2.1, fun l hl => h.1.2.2 l (e.old id l h.1.1 hl)⟩, h.2⟩
  | _, _, e, .ref id r c, v, S, h => by
    simp only [VR] at h ⊢
    exact ⟨⟨Nat.lt_of_lt_of_le h.1.1 e.n, h.1.2.1, fun l hl => h.1.2.2 l (e.old id l h.1.1 hl)⟩, h.2⟩
  | _, _, e, .fptr row c, v, S, h => by
    simp only [VR] at h ⊢
    obtain ⟨⟨b, o, vals, hv, ho, hb, hc, h1, hr⟩, hS⟩ := h
    exact ⟨⟨b, o, vals, hv, (e.block b hb ho).2, Nat.lt_of_lt_of_le hb e.size, cellsAt_of_block (e.block b hb ho).1 hc, h1, VRl_ext e.zero row vals [] hr⟩, hS⟩
  | _, _, e, .sl sz rows, v, S, h => by
    simp only [VR] at h ⊢
    obtain ⟨⟨A, cap, vals, hv, hl, hr, hb⟩, hS⟩ := h
    refine ⟨⟨A, cap, vals, hv, hl, VRr_ext e.zero rows vals [] hr, ?_⟩, hS⟩
    rcases hb with hb | ⟨b, o, hA, ho, hb, hs, hc, h1⟩
    · exact .inl hb
    · exact   .inr ⟨b, o, hA, (e.block b hb ho).2, Nat.lt_of_lt_of_le hb e.size, hs, cellsAt_of_block (e.block b hb ho).1 hc, h1⟩
  | _, _, e, .us sz rows, v, S, h => by
    simp only [VR] at h ⊢
    obtain ⟨hl, h⟩ := h
    refine ⟨hl, ?_⟩
    rcases h with h | ⟨b, cap, cur, t, vals, rest, S', hv, hS, ho, hb, h1, h2, h3, h4, h5, h6, h6', h7⟩
    · exact .inl h
    · have hlt := lt_of_heap hb
      exact .inr ⟨b, cap, cur, t, vals, rest, S', hv, hS, (e.block b hlt ho).2, (e.block b hlt ho).1.trans hb, h1, h2, h3, h4, h5, h6, h6', VRr_ext e.zero rows vals S' h7⟩
  | _, _, e, .fn f fi ca, v, S, h => by
    simp only [VR] at h ⊢
    obtain ⟨⟨x, y, hv, h1, h2⟩, hS⟩ := h
    exact ⟨⟨x, y, hv, VRl_ext e fi _ _ h1, VRl_ext e ca _ _ h2⟩, hS⟩
  | _, _, e, .agg cs, v, S, h => by
    simp only [VR] at h ⊢
    obtain ⟨vs, hv, h1⟩ := h
    exact ⟨vs, hv, VRl_ext e cs _ _ h1⟩
  | _, _, e, .tup cs, v, S, h => by
    simp only [VR] at h ⊢
    obtain ⟨vs, hv, h1⟩ := h
    exact ⟨vs, hv, VRl_ext e cs _ _ h1⟩
theorem VRl_ext : ∀ {N N' : Nat} (_e : Ext w L N w' L' N') (as : List AV) (vs : List Value) (S : List Nat), VRl w L N as vs S → VRl w' L' N' as vs S
  | _, _, e, [], _, _, h => by simpa only [VRl] using h
  | _, _, e, a :: as, vs, S, h => by
    simp only [VRl] at h ⊢
    obtain ⟨v, vs', S1, S2, h1, h2, h3, h4⟩ := h
    exact ⟨v, vs', S1, S2, h1, h2, VR_ext e a v S1 h3, VRl_ext e as vs' S2 h4⟩
theorem VRr_ext : ∀ {N N' : Nat} (_e : Ext w L N w' L' N') (rs : List (List AV)) (vs : List Value) (S : List Nat), VRr w L N rs vs S → VRr w' L' N' rs vs S
  | _, _, e, [], _, _, h => by simpa only [VRr] using h
  | _, _, e, r :: rs, vs, S, h => by
    simp only [VRr] at h ⊢
    obtain ⟨v1, v2, S1, S2, h1, h2, h3, h4⟩ := h
    exact ⟨v1, v2, S1, S2, h1, h2, VRl_ext e r v1 S1 h3, VRr_ext e rs v2 S2 h4⟩
end

theorem Ext.refl (w : World) (L : Nat → Option Loc) (N : Nat) : Ext w L N w L N := ⟨Nat.le_refl _, fun _ _ _ h => h, Nat.le_refl _, fun _ _ h => ⟨rfl, h⟩⟩
end ext

/-! A copy: what it reaches may be read, and is nobody's to give away. -/
mutual
def dr : AV → AV
  | .us sz rows => .sl sz (drr rows)
  | .agg cs => .agg (drl cs)
  | .tup cs => .tup (drl cs)
  | a => a
def drl : List AV → List AV
  | [] => []
  | a :: as => dr a :: drl as
def drr : List (List AV) → List (List AV)
  | [] => []
  | r :: rs => drl r :: drr rs
end

theorem drl_eq (as : List AV) : drl as = as.map dr := by induction as with | nil => rfl | cons a as ih => simp [drl, ih]
theorem drr_eq (rs : List (List AV)) : drr rs = rs.map drl := by induction rs with | nil => rfl | cons a as ih => simp [drr, ih]

section dr
variable {w : World} {L : Nat → Option Loc}
mutual
theorem VR_dr : ∀ {N : Nat} (a : AV) (v : Value) (S : List Nat), VR w L N a v S → VR w L N (dr a) v []
  | _, .undef, _, _, h => by simp only [VR, dr]
  | _, .int .., _, _, h => by simp only [VR, dr] at h ⊢; exact ⟨h.1, trivial⟩
  | _, .bool _, _, _, h => by simp only [VR, dr] at h ⊢; exact ⟨h.1, trivial⟩
  | _, .str _, _, _, h => by simp only [VR, dr] at h ⊢; exact ⟨h.1, trivial⟩
  | _, .nil _, _, _, h => by simp only [VR, dr] at h ⊢; exact ⟨h.1, trivial⟩
  | _, .nilp, _, _, h => by simp only [VR, dr] at h ⊢; exact ⟨h.1, trivial⟩
  | _, .mp _, _, _, h => by simp only [VR] at h
  | _, .ptr .., _, _, h => by simp only [VR, dr] at h ⊢; exact ⟨h.1, trivial⟩
  | _, .ref .., _, _, h => by simp only [VR, dr] at h ⊢; exact ⟨h.1, trivial⟩
  | _, .fptr .., _, _, h => by simp only [VR, dr] at h ⊢; exact ⟨h.1, trivial⟩
  | _, .sl .., _, _, h => by simp only [VR, dr] at h ⊢; exact ⟨h.1, trivial⟩
  | _, .fn .., _, _, h => by simp only [VR, dr] at h ⊢; exact ⟨h.1, trivial⟩
  | _, .us sz rows, v, S, h => by
    simp only [VR, dr] at h ⊢
    obtain ⟨hl, h⟩ := h
    have hlen : (drr rows).length = rows.length := by rw [drr_eq]; simp
    refine ⟨?_, trivial⟩
    rw [hlen]
    rcases h with ⟨rfl, rfl, _⟩ | ⟨b, cap, cur, t, vals, rest, S', rfl, hS, ho, hb, h1, h2, h3, h4, h5, h6, h6', h7⟩
    · exact ⟨Option.none, 0, [], rfl, ⟨hl, Nat.le_refl _⟩, ⟨rfl, rfl⟩, .inl rfl⟩
    · refine ⟨_, cap, vals, rfl, ⟨hl, h4⟩, VRr_dr rows vals S' h7,   .inr ⟨b, 0, rfl, ho, lt_of_heap hb, ?_, ?_, h6'⟩⟩
      · intro r hr
        rw [drr_eq] at hr
        obtain ⟨r', hr', rfl⟩ := List.mem_map.1 hr
        rw [drl_eq, List.length_map]; exact h6 r' hr'
      · intro j v hj
        rw [cell_of_row w b _ cur t (0, 0) hb, ← Array.getElem?_toList, h1, Nat.zero_add, List.getElem?_append_left (List.getElem?_eq_some_iff.1 hj).1]
        exact hj
  | _, .agg cs, v, S, h => by
    simp only [VR, dr] at h ⊢
    obtain ⟨vs, hv, h1⟩ := h
    exact ⟨vs, hv, VRl_dr cs _ _ h1⟩
  | _, .tup cs, v, S, h => by
    simp only [VR, dr] at h ⊢
    obtain ⟨vs, hv, h1⟩ := h
    exact ⟨vs, hv, VRl_dr cs _ _ h1⟩
theorem VRl_dr : ∀ {N : Nat} (as : List AV) (vs : List Value) (S : List Nat), VRl w L N as vs S → VRl w L N (drl as) vs []
  | _, [], _, _, h => by simp only [VRl, drl] at h ⊢; exact ⟨h.1, trivial⟩
  | _, a :: as, vs, S, h => by
    simp only [VRl, drl] at h ⊢
    obtain ⟨v, vs', S1, S2, h1, h2, h3, h4⟩ := h
    exact ⟨v, vs', [], [], h1, rfl, VR_dr a v S1 h3, VRl_dr as vs' S2 h4⟩
theorem VRr_dr : ∀ {N : Nat} (rs : List (List AV)) (vs : List Value) (S : List Nat), VRr w L N rs vs S → VRr w L N (drr rs) vs []
  | _, [], _, _, h => by simp only [VRr, drr] at h ⊢; exact ⟨h.1, trivial⟩
  | _, r :: rs, vs, S, h => by
    simp only [VRr, drr] at h ⊢
    obtain ⟨v1, v2, S1, S2, h1, h2, h3, h4⟩ := h
    exact ⟨v1, v2, [], [], h1, rfl, VRl_dr r v1 S1 h3, VRr_dr rs v2 S2 h4⟩
end
end dr

end Go.Proofs.Ytlefdibgonpoaaa
