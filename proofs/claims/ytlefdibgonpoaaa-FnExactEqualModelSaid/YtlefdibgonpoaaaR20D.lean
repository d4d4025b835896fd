/- Operations whose order is drawn: one walk serves every order. -/
import Derived.Test.YtlefdibgonpoaaaR20
import Derived.Orders
namespace Go.Proofs.Ytlefdibgonpoaaa
open Go Go.RowKit

theorem ACall.mono {P : Program} {f : FuncId} {as : List AV} {h : Heap} {n : Nat} {K K' : AV → Heap → Nat → Prop} (hc : ACall P f as h n K) (hk : ∀ r h n, K r h n → K' r h n) : ACall P f as h n K' :=
  ⟨hc.1, fun base w0 w L F vs H hv => (hc.2 base w0 w L F vs H hv).mono fun _ _ ⟨v, r, L', n', F', h', h1, h2, h3, h4, h5⟩ => ⟨v, r, L', n', F', h', h1, h2, h3, h4, hk _ _ _ h5⟩⟩

/-! Which slots an operation reads. -/
def rdX : Opd → List Nat
  | .t n => [n]
  | .k _ => []

def rdM : Option Opd → List Nat
  | some x => rdX x
  | Option.none => []

def rdO : AOp → List Nat
  | .mv x => rdX x
  | .pick c a b => rdX c ++ (rdX a ++ rdX b)
  | .box _ => []
  | .boxv x => rdX x
  | .build _ ps => ps.flatMap fun p => rdX p.2.2
  | .bsl _ ps => ps.flatMap rdX
  | .ld _ _ x => rdX x
  | .st _ a x => rdX a ++ rdX x
  | .nchk x => rdX x
  | .bin _ x y => rdX x ++ rdX y
  | .beq _ x y => rdX x ++ rdX y
  | .un _ x => rdX x
  | .cvi _ x => rdX x
  | .cvb x => rdX x
  | .mkf _ fi ca => fi.flatMap rdX ++ ca.flatMap rdX
  | .mks _ _ l c => rdX l ++ rdX c
  | .slc _ _ x lo hi => rdX x ++ (rdM lo ++ rdM hi)
  | .fld _ x => rdX x
  | .prt _ _ _ x => rdX x
  | .ixa _ x i => rdX x ++ rdX i
  | .ixs x i => rdX x ++ rdX i
  | .ext x _ => rdX x
  | .call f args => rdX f ++ args.flatMap rdX
  | .len _ x => rdX x
  | .app _ _ x y => rdX x ++ rdX y
  | .mnx _ x y => rdX x ++ rdX y

def agree (s s' : Env) (l : List Nat) : Prop := ∀ t ∈ l, s t = s' t

theorem agree.left {s s' : Env} {l m : List Nat} (h : agree s s' (l ++ m)) : agree s s' l := fun t ht => h t (List.mem_append_left _ ht)
theorem agree.right {s s' : Env} {l m : List Nat} (h : agree s s' (l ++ m)) : agree s s' m := fun t ht => h t (List.mem_append_right _ ht)
theorem agree.ev {s s' : Env} {x : Opd} (h : agree s s' (rdX x)) : ev s x = ev s' x := by
  cases x with
  | t n => exact h n (by simp [rdX])
  | k a => rfl
theorem agree.evs {s s' : Env} {l : List Opd} (h : agree s s' (l.flatMap rdX)) : l.map (Go.Proofs.Ytlefdibgonpoaaa.ev s) = l.map (Go.Proofs.Ytlefdibgonpoaaa.ev s') :=
  List.map_congr_left fun x hx => agree.ev fun t ht => h t (List.mem_flatMap.2 ⟨x, hx, ht⟩)
theorem agree.low {s s' : Env} {x : Option Opd} {d : Int} (h : agree s s' (rdM x)) : lowOf s d x = lowOf s' d x := by
  cases x with
  | none => rfl
  | some x => simp only [lowOf, agree.ev h]

theorem aop_congr {P : Program} {s s' : Env} {h : Heap} {n : Nat} {K : AV → Heap → Nat → Prop} {op : AOp} (ha : agree s s' (rdO op)) : aop P s h n K op = aop P s' h n K op := by
  cases op <;> simp only [rdO] at ha
  case mv => simp only [aop, ha.ev]
  case pick => simp only [aop, ha.left.ev, ha.right.left.ev, ha.right.right.ev]
  case box => rfl
  case boxv => simp only [aop, ha.ev]
  case build z ps =>
    have hp : ∀ p ∈ ps, ev s p.2.2 = ev s' p.2.2 := fun p hp => agree.ev fun t ht => ha t (List.mem_flatMap.2 ⟨p, hp, ht⟩)
    have h1 : (ps.map fun p => (p.1, p.2.1, ev s p.2.2)) = ps.map fun p => (p.1, p.2.1, ev s' p.2.2) := List.map_congr_left fun p hp' => by rw [hp p hp']
    have h2 : (ps.all fun p => (cellsOf (ev s p.2.2)).all isCell) = ps.all fun p => (cellsOf (ev s' p.2.2)).all isCell := by
      rw [Bool.eq_iff_iff, List.all_eq_true, List.all_eq_true]
      exact ⟨fun h p hp' => by rw [← hp p hp']; exact h p hp', fun h p hp' => by rw [hp p hp']; exact h p hp'⟩
    simp only [aop, h1, h2]
  case bsl => simp only [aop, ha.evs]
  case ld => simp only [aop, ha.ev]
  case st => simp only [aop, ha.left.ev, ha.right.ev]
  case nchk => simp only [aop, ha.ev]
  case bin => simp only [aop, ha.left.ev, ha.right.ev]
  case beq => simp only [aop, ha.left.ev, ha.right.ev]
  case un => simp only [aop, ha.ev]
  case cvi => simp only [aop, ha.ev]
  case cvb => simp only [aop, ha.ev]
  case mkf => simp only [aop, ha.left.evs, ha.right.evs]
  case mks => simp only [aop, ha.left.ev, ha.right.ev]
  case slc => simp only [aop, ha.left.ev, ha.right.left.low, ha.right.right.low]
  case fld => simp only [aop, ha.ev]
  case prt => simp only [aop, ha.ev]
  case ixa => simp only [aop, ha.left.ev, ha.right.ev]
  case ixs => simp only [aop, ha.left.ev, ha.right.ev]
  case ext => simp only [aop, ha.ev]
  case call => simp only [aop, ha.left.ev, ha.right.evs]
  case len => simp only [aop, ha.ev]
  case app => simp only [aop, ha.left.ev, ha.right.ev]
  case mnx => simp only [aop, ha.left.ev, ha.right.ev]

/-! What was there is there still. -/
def hext (h h' : Heap) : Prop := ∀ id B, h id = some B → h' id = some B

theorem hext.refl (h : Heap) : hext h h := fun _ _ e => e
theorem hext.trans {h h' h'' : Heap} (a : hext h h') (b : hext h' h'') : hext h h'' := fun id B e => b id B (a id B e)
theorem hext.upd {h : Heap} {n : Nat} {x : Option Blk} (hn : h n = Option.none) : hext h (upd h n x) := fun id B e => by
  have : id ≠ n := fun e' => by rw [e', hn] at e; cases e
  rw [upd_other _ _ _ _ this]; exact e

def pureO : AOp → Bool
  | .mv _ | .pick .. | .build .. | .ld .. | .nchk _ | .bin .. | .beq .. | .un .. | .cvi .. | .mkf .. | .slc .. | .fld .. | .prt .. | .ixa .. | .ixs .. | .ext .. | .len .. | .mnx .. => true
  | _ => false

def softO : AOp → Bool
  | .box _ | .boxv _ | .mks .. | .call .. | .cvb _ => true
  | _ => false

/-- Does it look at memory? -/
def heapO : AOp → Bool
  | .mv _ | .pick .. | .build .. | .bin .. | .beq .. | .un .. | .cvi .. | .mkf .. | .prt .. | .ixs .. | .ext .. | .mnx .. => false
  | _ => true

/-- One operation in a region that draws: a call leaves what is there; a length is not asked for its bound. -/
def aopD (P : Program) (s : Env) (h : Heap) (n : Nat) (K : AV → Heap → Nat → Prop) : AOp → Prop
  | .call f args => match ev s f with
    | .fn (.func f) fi ca => ACall P f (fi ++ args.map (ev s) ++ ca) h n fun r h' n' => hext h h' ∧ K r h' n'
    | _ => False
  | .len str x => match str, ev s x with
    | true, .str l => K (.int .i64 l.length) h n
    | false, .sl _ rows => K (.int .i64 rows.length) h n
    | false, .ref id _ len => (h id).isSome = true ∧ K (.int .i64 len) h n
    | false, .nil _ => K (.int .i64 0) h n
    | _, _ => False
  | op => aop P s h n K op

theorem aop_of_aopD {P : Program} {s : Env} {h : Heap} {n : Nat} {K : AV → Heap → Nat → Prop} {op : AOp} (hk : aopD P s h n K op) : aop P s h n K op := by
  unfold aopD at hk
  split at hk
  · simp only [aop]
    split at hk
    · rename_i hf; rw [hf]; exact ACall.mono hk fun _ _ _ h => h.2
    · exact hk.elim
  · simp only [aop]
    split at hk <;> rename_i hf <;> simp only [hf]
    · exact fun _ => hk
    · exact fun _ => hk
    · exact ⟨hk.1, fun _ => hk.2⟩
    · exact hk
    · exact hk.elim
  · exact hk

theorem soft_hext {P : Program} {s : Env} {h : Heap} {n : Nat} {K : AV → Heap → Nat → Prop} {op : AOp} (hs : softO op = true) (hn : h n = Option.none) (hk : aopD P s h n K op) : aop P s h n (fun r h' n' => hext h h' ∧ K r h' n') op := by
  cases op <;> simp only [softO, Bool.false_eq_true] at hs <;> simp only [aopD, aop] at hk ⊢
  case box => exact ⟨hext.upd hn, hk⟩
  case boxv => exact ⟨hk.1, hk.2.1, hext.upd hn, hk.2.2⟩
  case cvb => unfold onO at hk ⊢; split at hk <;> first | exact hk.elim | (split at hk <;> first | exact hk.elim | exact ⟨hext.refl _, hk⟩)
  case mks => unfold onO at hk ⊢; split at hk <;> first | exact hk.elim | (split at hk <;> first | exact hk.elim | exact ⟨hk.1, hk.2.1, hk.2.2.1, hext.upd hn, hk.2.2.2⟩)
  case call => split at hk <;> first | exact hk.elim | (rename_i hf; simp only [hf]; exact hk)

/-- An operation's result stays what it is. -/
def Fix (P : Program) (op : AOp) (s : Env) (h : Heap) (r : AV) : Prop := ∀ s' h' n' K', agree s s' (rdO op) → (heapO op = true → hext h h') → K' r h' n' → aop P s' h' n' K' op

theorem Fix.mono {P : Program} {op : AOp} {s s' : Env} {h h' : Heap} {r : AV} (hf : Fix P op s h r) (ha : agree s s' (rdO op)) (he : heapO op = true → hext h h') : Fix P op s' h' r :=
  fun s2 h2 n2 K2 ha2 he2 hk => hf s2 h2 n2 K2 (fun t ht => (ha t ht).trans (ha2 t ht)) (fun e => (he e).trans (he2 e)) hk

theorem onO_get {α : Type} {x : Option α} {K : α → Prop} (h : onO x K) : ∃ a, x = some a ∧ K a := by
  unfold onO at h
  split at h
  · exact ⟨_, rfl, h⟩
  · exact h.elim

theorem pure_fix {P : Program} {s : Env} {h : Heap} {n : Nat} {K : AV → Heap → Nat → Prop} {op : AOp} (hp : pureO op = true) (hk : aopD P s h n K op) : ∃ r, K r h n ∧ Fix P op s h r := by
  have red : ∀ r, (∀ h' n' K', (heapO op = true → hext h h') → K' r h' n' → aop P s h' n' K' op) → Fix P op s h r := fun r hr s' h' n' K' ha he hK => by
    rw [← aop_congr ha]; exact hr h' n' K' he hK
  cases op <;> simp only [pureO, Bool.false_eq_true] at hp <;> simp only [aopD, aop] at hk
  case mv => exact ⟨_, hk, red _ fun h' n' K' he hK => by simp only [aop]; exact hK⟩
  case pick =>
    split at hk
    · rename_i c hc
      cases c
      · exact ⟨_, hk.2 rfl, red _ fun h' n' K' he hK => by simp only [aop, hc]; exact ⟨fun h => (by cases h), fun _ => hK⟩⟩
      · exact ⟨_, hk.1 rfl, red _ fun h' n' K' he hK => by simp only [aop, hc]; exact ⟨fun _ => hK, fun h => (by cases h)⟩⟩
    · exact hk.elim
  case build =>
    obtain ⟨h1, h2⟩ := hk
    obtain ⟨a, ha, h3⟩ := onO_get h2
    exact ⟨_, h3, red _ fun h' n' K' he hK => by simp only [aop, ha, onO]; exact ⟨h1, hK⟩⟩
  case ld =>
    split at hk
    · rename_i id r c hx
      obtain ⟨B, hB, h1, h2⟩ := onO_get hk
      obtain ⟨a, ha, h3⟩ := onO_get h2
      exact ⟨_, h3, red _ fun h' n' K' he hK => by simp only [aop, hx, he rfl id B hB, onO, ha]; exact ⟨h1, hK⟩⟩
    · rename_i hx
      obtain ⟨a, ha, h3⟩ := onO_get hk
      exact ⟨_, h3, red _ fun h' n' K' he hK => by simp only [aop, hx, ha, onO]; exact hK⟩
    · exact hk.elim
  case nchk =>
    split at hk
    · rename_i id r c hx
      obtain ⟨B, hB⟩ := Option.isSome_iff_exists.1 hk.1
      exact ⟨_, hk.2, red _ fun h' n' K' he hK => by simp only [aop, hx, he rfl id B hB]; exact ⟨rfl, hK⟩⟩
    · rename_i hx
      exact ⟨_, hk, red _ fun h' n' K' he hK => by simp only [aop, hx]; exact hK⟩
    · exact hk.elim
  case bin op x y =>
    split at hk
    · rename_i hx hy
      obtain ⟨h1, h2⟩ := hk
      split at h2
      · exact ⟨_, h2.2, red _ fun h' n' K' he hK => by simp only [aop, hx, hy]; exact ⟨h1, h2.1, hK⟩⟩
      · exact ⟨_, h2.2, red _ fun h' n' K' he hK => by simp only [aop, hx, hy]; exact ⟨h1, h2.1, hK⟩⟩
      · rename_i n1 n2
        obtain ⟨a, ha, h3⟩ := onO_get h2
        refine ⟨_, h3, red _ fun h' n' K' he hK => ?_⟩
        simp only [aop, hx, hy]
        refine ⟨h1, ?_⟩
        cases op <;> first | exact absurd rfl n1 | exact absurd rfl n2 | (simp only [ha, onO]; exact hK)
    · rename_i hx hy
      split at hk
      · exact ⟨_, hk.2, red _ fun h' n' K' he hK => by simp only [aop, hx, hy]; exact ⟨hk.1, hK⟩⟩
      · rename_i n1
        obtain ⟨a, ha, h3⟩ := onO_get hk
        refine ⟨_, h3, red _ fun h' n' K' he hK => ?_⟩
        simp only [aop, hx, hy]
        cases op <;> first | exact absurd rfl n1 | (simp only [ha, onO]; exact hK)
    · exact hk.elim
  case beq =>
    split at hk
    · rename_i hx hy
      exact ⟨_, hk, red _ fun h' n' K' he hK => by simp only [aop, hx, hy]; exact hK⟩
    · exact hk.elim
  case un op x =>
    split at hk
    · rename_i hx
      exact ⟨_, hk, red _ fun h' n' K' he hK => by simp only [aop, hx]; exact hK⟩
    · rename_i hx
      exact ⟨_, hk, red _ fun h' n' K' he hK => by simp only [aop, hx]; exact hK⟩
    · exact hk.elim
  case cvi =>
    obtain ⟨a, ha, h3⟩ := onO_get hk
    exact ⟨_, h3, red _ fun h' n' K' he hK => by simp only [aop, ha, onO]; exact hK⟩
  case mkf => exact ⟨_, hk, red _ fun h' n' K' he hK => by simp only [aop]; exact hK⟩
  case slc str sz x lo hi =>
    split at hk
    · rename_i l hx
      obtain ⟨a, ha, hk⟩ := onO_get hk
      obtain ⟨b, hb, h1, h2, h3, h4⟩ := onO_get hk
      exact ⟨_, h4, red _ fun h' n' K' he hK => by simp only [aop, hx, ha, hb, onO]; exact ⟨h1, h2, h3, hK⟩⟩
    · rename_i sz' rows hx
      obtain ⟨a, ha, hk⟩ := onO_get hk
      obtain ⟨b, hb, h0, h1, h2, h3, h4⟩ := onO_get hk
      exact ⟨_, h4, red _ fun h' n' K' he hK => by simp only [aop, hx, ha, hb, onO]; exact ⟨h0, h1, h2, h3, hK⟩⟩
    · rename_i id off len hx
      obtain ⟨a, ha, hk⟩ := onO_get hk
      obtain ⟨b, hb, h1, h2, h3, hk⟩ := onO_get hk
      obtain ⟨B, hB, h4, h5⟩ := onO_get hk
      exact ⟨_, h5, red _ fun h' n' K' he hK => by simp only [aop, hx, ha, hb, he rfl id B hB, onO]; exact ⟨h1, h2, h3, h4, hK⟩⟩
    · rename_i sz' hx
      obtain ⟨a, ha, hk⟩ := onO_get hk
      obtain ⟨b, hb, h1, h2, h3⟩ := onO_get hk
      exact ⟨_, h3, red _ fun h' n' K' he hK => by simp only [aop, hx, ha, hb, onO]; exact ⟨h1, h2, hK⟩⟩
    · exact hk.elim
  case fld =>
    split at hk
    · rename_i id r c hx
      obtain ⟨B, hB⟩ := Option.isSome_iff_exists.1 hk.1
      exact ⟨_, hk.2, red _ fun h' n' K' he hK => by simp only [aop, hx, he rfl id B hB]; exact ⟨rfl, hK⟩⟩
    · rename_i hx
      exact ⟨_, hk, red _ fun h' n' K' he hK => by simp only [aop, hx]; exact hK⟩
    · exact hk.elim
  case prt =>
    split at hk
    · rename_i hx
      obtain ⟨a, ha, h3⟩ := onO_get hk
      exact ⟨_, h3, red _ fun h' n' K' he hK => by simp only [aop, hx, ha, onO]; exact hK⟩
    · exact hk.elim
  case ixa =>
    split at hk
    · rename_i hx hi
      exact ⟨_, hk.2.2.2, red _ fun h' n' K' he hK => by simp only [aop, hx, hi]; exact ⟨hk.1, hk.2.1, hk.2.2.1, hK⟩⟩
    · rename_i id off len i hx hi
      obtain ⟨h1, h2, hk⟩ := hk
      obtain ⟨B, hB, h4, h5⟩ := onO_get hk
      exact ⟨_, h5, red _ fun h' n' K' he hK => by simp only [aop, hx, hi, he rfl id B hB, onO]; exact ⟨h1, h2, h4, hK⟩⟩
    · exact hk.elim
  case ixs =>
    split at hk
    · rename_i hx hi
      exact ⟨_, hk.2.2, red _ fun h' n' K' he hK => by simp only [aop, hx, hi]; exact ⟨hk.1, hk.2.1, hK⟩⟩
    · exact hk.elim
  case ext =>
    split at hk
    · rename_i hx
      obtain ⟨a, ha, h3⟩ := onO_get hk
      exact ⟨_, h3, red _ fun h' n' K' he hK => by simp only [aop, hx, ha, onO]; exact hK⟩
    · exact hk.elim
  case len str x =>
    split at hk
    · rename_i hx
      exact ⟨_, hk, red _ fun h' n' K' he hK => by simp only [aop, hx]; exact fun _ => hK⟩
    · rename_i hx
      exact ⟨_, hk, red _ fun h' n' K' he hK => by simp only [aop, hx]; exact fun _ => hK⟩
    · rename_i id off len hx
      obtain ⟨B, hB⟩ := Option.isSome_iff_exists.1 hk.1
      exact ⟨_, hk.2, red _ fun h' n' K' he hK => by simp only [aop, hx, he rfl id B hB]; exact ⟨rfl, fun _ => hK⟩⟩
    · rename_i hx
      exact ⟨_, hk, red _ fun h' n' K' he hK => by simp only [aop, hx]; exact hK⟩
    · exact hk.elim
  case mnx =>
    split at hk
    · rename_i hx hy
      exact ⟨_, hk.2, red _ fun h' n' K' he hK => by simp only [aop, hx, hy]; exact ⟨hk.1, hK⟩⟩
    · exact hk.elim

theorem onO_mono {α : Type} {x : Option α} {K K' : α → Prop} (h : onO x K) (hk : ∀ a, K a → K' a) : onO x K' := by
  unfold onO at h ⊢
  split at h
  · exact hk _ h
  · exact h.elim

theorem aop_mono {P : Program} {s : Env} {h : Heap} {n : Nat} {K K' : AV → Heap → Nat → Prop} {op : AOp} (hk : aop P s h n K op) (hm : ∀ r h n, K r h n → K' r h n) : aop P s h n K' op := by
  cases op <;> simp only [aop] at hk ⊢
  case mv => exact hm _ _ _ hk
  case pick => split at hk <;> first | exact hk.elim | exact ⟨fun e => hm _ _ _ (hk.1 e), fun e => hm _ _ _ (hk.2 e)⟩
  case box => exact hm _ _ _ hk
  case boxv => exact ⟨hk.1, hk.2.1, hm _ _ _ hk.2.2⟩
  case build => exact ⟨hk.1, onO_mono hk.2 fun _ h => hm _ _ _ h⟩
  case bsl => exact onO_mono hk fun _ h => ⟨h.1, hm _ _ _ h.2⟩
  case ld =>
    split at hk
    · exact onO_mono hk fun _ h => ⟨h.1, onO_mono h.2 fun _ h => hm _ _ _ h⟩
    · exact onO_mono hk fun _ h => hm _ _ _ h
    · exact hk.elim
  case st =>
    refine ⟨hk.1, hk.2.1, ?_⟩
    have hk := hk.2.2
    split at hk
    · refine onO_mono hk fun B h => ?_
      split at h <;> rename_i hb
      · rw [if_pos hb]; exact ⟨h.1, h.2.1, hm _ _ _ h.2.2⟩
      · rw [if_neg hb]; exact onO_mono h fun _ h => onO_mono h fun _ h => ⟨h.1, h.2.1, h.2.2.1, hm _ _ _ h.2.2.2⟩
    · exact hk.elim
  case nchk =>
    split at hk
    · exact ⟨hk.1, hm _ _ _ hk.2⟩
    · exact hm _ _ _ hk
    · exact hk.elim
  case bin =>
    split at hk
    · refine ⟨hk.1, ?_⟩
      have hk := hk.2
      split at hk
      · exact ⟨hk.1, hm _ _ _ hk.2⟩
      · exact ⟨hk.1, hm _ _ _ hk.2⟩
      · exact onO_mono hk fun _ h => hm _ _ _ h
    · split at hk
      · exact ⟨hk.1, hm _ _ _ hk.2⟩
      · exact onO_mono hk fun _ h => hm _ _ _ h
    · exact hk.elim
  case beq => split at hk <;> first | exact hk.elim | exact hm _ _ _ hk
  case un => split at hk <;> first | exact hk.elim | exact hm _ _ _ hk
  case cvi => exact onO_mono hk fun _ h => hm _ _ _ h
  case cvb => exact onO_mono hk fun _ h => onO_mono h fun _ h => hm _ _ _ h
  case mkf => exact hm _ _ _ hk
  case mks => exact onO_mono hk fun _ h => onO_mono h fun _ h => ⟨h.1, h.2.1, h.2.2.1, hm _ _ _ h.2.2.2⟩
  case slc =>
    split at hk
    · exact onO_mono hk fun _ h => onO_mono h fun _ h => ⟨h.1, h.2.1, h.2.2.1, hm _ _ _ h.2.2.2⟩
    · exact onO_mono hk fun _ h => onO_mono h fun _ h => ⟨h.1, h.2.1, h.2.2.1, h.2.2.2.1, hm _ _ _ h.2.2.2.2⟩
    · exact onO_mono hk fun _ h => onO_mono h fun _ h => ⟨h.1, h.2.1, h.2.2.1, onO_mono h.2.2.2 fun _ h => ⟨h.1, hm _ _ _ h.2⟩⟩
    · exact onO_mono hk fun _ h => onO_mono h fun _ h => ⟨h.1, h.2.1, hm _ _ _ h.2.2⟩
    · exact hk.elim
  case fld =>
    split at hk
    · exact ⟨hk.1, hm _ _ _ hk.2⟩
    · exact hm _ _ _ hk
    · exact hk.elim
  case prt => split at hk <;> first | exact hk.elim | exact onO_mono hk fun _ h => hm _ _ _ h
  case ixa =>
    split at hk
    · exact ⟨hk.1, hk.2.1, hk.2.2.1, hm _ _ _ hk.2.2.2⟩
    · exact ⟨hk.1, hk.2.1, onO_mono hk.2.2 fun _ h => ⟨h.1, hm _ _ _ h.2⟩⟩
    · exact hk.elim
  case ixs => split at hk <;> first | exact hk.elim | exact ⟨hk.1, hk.2.1, hm _ _ _ hk.2.2⟩
  case ext => split at hk <;> first | exact hk.elim | exact onO_mono hk fun _ h => hm _ _ _ h
  case call => split at hk <;> first | exact hk.elim | exact ACall.mono hk hm
  case len =>
    split at hk
    · exact fun e => hm _ _ _ (hk e)
    · exact fun e => hm _ _ _ (hk e)
    · exact ⟨hk.1, fun e => hm _ _ _ (hk.2 e)⟩
    · exact hm _ _ _ hk
    · exact hk.elim
  case app =>
    split at hk
    · exact onO_mono hk fun _ h => ⟨h.1, h.2.1, hm _ _ _ h.2.2⟩
    · exact ⟨hk.1, onO_mono hk.2 fun _ h => onO_mono h fun _ h => ⟨h.1, h.2.1, h.2.2.1, h.2.2.2.1, h.2.2.2.2.1, h.2.2.2.2.2.1, hm _ _ _ h.2.2.2.2.2.2⟩⟩
    · exact hk.elim
  case mnx => split at hk <;> first | exact hk.elim | exact ⟨hk.1, hm _ _ _ hk.2⟩

end Go.Proofs.Ytlefdibgonpoaaa
