/- What a call gives back becomes the caller's own. -/
import Derived.Test.YtlefdibgonpoaaaR4
namespace Go.Proofs.Ytlefdibgonpoaaa
open Go Go.RowKit

theorem addAll_eq : ∀ (rs : List (Nat × List (List AV))) (h : Heap) (n id : Nat),
    addAll h n rs id = if n ≤ id then (match rs[id - n]? with | some r => some ⟨false, r.1, r.2⟩ | Option.none => h id) else h id
  | [], h, n, id => by simp [addAll]
  | r :: rs, h, n, id => by
    rw [addAll, addAll_eq rs]
    by_cases h1 : n + 1 ≤ id
    · rw [if_pos h1, if_pos (by omega)]
      have : id - n = (id - (n + 1)) + 1 := by omega
      rw [this, List.getElem?_cons_succ]
      rw [upd_other _ _ _ _ (by omega)]
    · rw [if_neg h1]
      by_cases h2 : id = n
      · subst h2; rw [upd_same, if_pos (Nat.le_refl _)]; simp
      · rw [upd_other _ _ _ _ h2, if_neg (by omega)]

def blks (p : Loc × List Nat) : List Nat := match p.1 with | .at b _ _ => b :: p.2 | .none => p.2

structure ColData (w : World) (rs : List (Nat × List (List AV))) (ls : List (Loc × List Nat)) (S : List Nat) : Prop where
  len : ls.length = rs.length
  S : S = (ls.map blks).flatten
  brel : ∀ (i : Nat) rows l f, rs[i]? = some rows → ls[i]? = some (l, f) → BRel w Lo 0 ⟨false, rows.1, rows.2⟩ l f ∧ cleanr rows.2 = true

theorem ColData.append {w : World} {rs rs' : List (Nat × List (List AV))} {ls ls' : List (Loc × List Nat)} {S S' : List Nat} (h : ColData w rs ls S) (h' : ColData w rs' ls' S') :
    ColData w (rs ++ rs') (ls ++ ls') (S ++ S') := by
  refine ⟨by simp [h.len, h'.len], by simp [h.S, h'.S], ?_⟩
  intro i rows l f h1 h2
  by_cases hi : i < rs.length
  · rw [List.getElem?_append_left hi] at h1
    rw [List.getElem?_append_left (by rw [h.len]; exact hi)] at h2
    exact h.brel i rows l f h1 h2
  · rw [List.getElem?_append_right (by omega)] at h1
    rw [List.getElem?_append_right (by rw [h.len]; omega), h.len] at h2
    exact h'.brel _ rows l f h1 h2

section
variable {w : World}
mutual
theorem col_data : ∀ (r : AV) (v : Value) (S : List Nat), clean r = true → VR w Lo 0 r v S →
    ∃ ls, ColData w (col r) ls S ∧ ∀ (L : Nat → Option Loc) (n n' : Nat), n + (col r).length ≤ n' → (∀ (i : Nat) p, ls[i]? = some p → L (n + i) = some p.1) → VR w L n' (sub r n) v []
  | .undef, _, _, c, _ => by simp [clean] at c
  | .nil _, _, _, c, _ => by simp [clean] at c
  | .ptr .., _, _, c, _ => by simp [clean] at c
  | .fptr .., _, _, c, _ => by simp [clean] at c
  | .ref .., _, _, c, _ => by simp [clean] at c
  | .sl .., _, _, c, _ => by simp [clean] at c
  | .fn .., _, _, c, _ => by simp [clean] at c
  | .mp .., _, _, c, _ => by simp [clean] at c
  | .int .., v, S, c, h => by
    simp only [VR] at h; obtain ⟨rfl, rfl⟩ := h
    exact ⟨[], ⟨rfl, rfl, by simp [col]⟩, fun L n n' _ _ => by simp [sub, VR]⟩
  | .bool _, v, S, c, h => by
    simp only [VR] at h; obtain ⟨rfl, rfl⟩ := h
    exact ⟨[], ⟨rfl, rfl, by simp [col]⟩, fun L n n' _ _ => by simp [sub, VR]⟩
  | .str _, v, S, c, h => by
    simp only [VR] at h; obtain ⟨h1, rfl⟩ := h
    exact ⟨[], ⟨rfl, rfl, by simp [col]⟩, fun L n n' _ _ => by simp only [sub, VR]; exact ⟨h1, trivial⟩⟩
  | .nilp, v, S, c, h => by
    simp only [VR] at h; obtain ⟨rfl, rfl⟩ := h
    exact ⟨[], ⟨rfl, rfl, by simp [col]⟩, fun L n n' _ _ => by simp [sub, VR]⟩
  | .us sz rows, v, S, c, h => by
    simp only [VR, clean] at h c
    obtain ⟨hl, h⟩ := h
    rcases h with ⟨rfl, rfl, rfl⟩ | ⟨b, cap, cur, t, vals, rest, S', rfl, rfl, ho, hb, h1, h2, h3, h4, h5, h6, h6', h7⟩
    · refine ⟨[(.none, [])], ⟨rfl, rfl, ?_⟩, ?_⟩
      · intro i rows l f g1 g2
        cases i with
        | zero => simp only [col, List.getElem?_cons_zero, Option.some.injEq, Prod.mk.injEq] at g1 g2; obtain ⟨rfl, rfl⟩ := g2; subst g1; exact ⟨⟨rfl, rfl⟩, rfl⟩
        | succ i => simp [col] at g1
      · intro L n n' hn hL
        have hL0 : L n = some .none := hL 0 _ rfl
        simp only [sub, VR]
        refine ⟨⟨by simp [col] at hn; omega, rfl, ?_⟩, trivial⟩
        intro l hl'
        rw [hL0] at hl'; cases hl'
        exact ⟨Nat.zero_le _, rfl, rfl, rfl⟩
    · refine ⟨[(.at b sz cap, S')], ⟨rfl, by simp [blks], ?_⟩, ?_⟩
      · intro i rows' l f g1 g2
        cases i with
        | zero =>
          simp only [col, List.getElem?_cons_zero, Option.some.injEq, Prod.mk.injEq] at g1 g2; obtain ⟨rfl, rfl⟩ := g2; subst g1
          exact ⟨⟨rfl, by simp, cur, t, vals, rest, hb, h1, h2, h3, h5, h4, hl, h6, h6', h7⟩, c⟩
        | succ i => simp [col] at g1
      · intro L n n' hn hL
        have hL0 : L n = some (.at b sz cap) := hL 0 _ rfl
        simp only [sub, VR]
        refine ⟨⟨by simp [col] at hn; omega, rfl, ?_⟩, trivial⟩
        intro l hl'
        rw [hL0] at hl'; cases hl'
        exact ⟨hl, some ⟨b, 0, Option.none⟩, by simp, by simp, by omega⟩
  | .agg cs, v, S, c, h => by
    simp only [VR, clean] at h c
    obtain ⟨vs, rfl, h⟩ := h
    obtain ⟨ls, h1, h2⟩ := coll_data cs _ _ c h
    exact ⟨ls, h1, fun L n n' hn hL => by simp only [sub, VR]; exact ⟨vs, rfl, h2 L n n' hn hL⟩⟩
  | .tup cs, v, S, c, h => by
    simp only [VR, clean] at h c
    obtain ⟨vs, rfl, h⟩ := h
    obtain ⟨ls, h1, h2⟩ := coll_data cs _ _ c h
    exact ⟨ls, h1, fun L n n' hn hL => by simp only [sub, VR]; exact ⟨vs, rfl, h2 L n n' hn hL⟩⟩
theorem coll_data : ∀ (rs : List AV) (vs : List Value) (S : List Nat), cleanl rs = true → VRl w Lo 0 rs vs S →
    ∃ ls, ColData w (coll rs) ls S ∧ ∀ (L : Nat → Option Loc) (n n' : Nat), n + (coll rs).length ≤ n' → (∀ (i : Nat) p, ls[i]? = some p → L (n + i) = some p.1) → VRl w L n' (subl rs n) vs []
  | [], vs, S, c, h => by
    simp only [VRl] at h; obtain ⟨rfl, rfl⟩ := h
    exact ⟨[], ⟨rfl, rfl, by simp [coll]⟩, fun L n n' _ _ => by simp [subl, VRl]⟩
  | a :: as, vs, S, c, h => by
    simp only [cleanl, Bool.and_eq_true] at c
    simp only [VRl] at h
    obtain ⟨v, vs', S1, S2, rfl, rfl, h1, h2⟩ := h
    obtain ⟨l1, d1, k1⟩ := col_data a v S1 c.1 h1
    obtain ⟨l2, d2, k2⟩ := coll_data as vs' S2 c.2 h2
    refine ⟨l1 ++ l2, d1.append d2, ?_⟩
    intro L n n' hn hL
    simp only [coll, List.length_append] at hn
    simp only [subl]
    refine VRl_nil_cons.2 ⟨v, vs', rfl, k1 L n n' (by omega) ?_, k2 L _ n' (by omega) ?_⟩
    · intro i p hp
      refine hL i p ?_
      rw [List.getElem?_append_left (List.getElem?_eq_some_iff.1 hp).1]; exact hp
    · intro i p hp
      have := hL ((col a).length + i) p (by rw [← d1.len, List.getElem?_append_right (by omega), Nat.add_sub_cancel_left]; exact hp)
      rw [← this]; congr 1; omega
end
end

theorem HRel.after {base : Nat} {w0 w w' : World} {L : Nat → Option Loc} {N : Nat} {F : Nat → List Nat} {E : List Nat} {h : Heap} (H : HRel base w0 w L N F E h)
    (hb : Below w.heap.size w w') : HRel base w0 w' L N F E h ∧ Ext w L N w' L N := by
  have e : Ext w L N w' L N := ⟨Nat.le_refl _, fun _ _ _ h => h, hb.size, fun b hlt ho => ⟨hb.block b hlt, ho⟩⟩
  refine ⟨⟨H.below.trans (hb.mono H.bsz), Nat.le_trans H.bsz hb.size, H.dom, H.mod, H.lt, H.inj, H.lo, ?_, ?_, ?_, H.nd, H.ne, H.dj, H.de⟩, e⟩
  · intro id B l h1 h2
    exact (H.blk id B l h1 h2).ext e fun b sz cap hl => hb.block b (H.own_lt ⟨id, sz, cap, hl ▸ h2⟩)
  · intro id b hm; obtain ⟨h1, h2, h3⟩ := H.fp id b hm; exact ⟨h1, h2, Nat.lt_of_lt_of_le h3 hb.size⟩
  · intro b hm; obtain ⟨h1, h2, h3⟩ := H.ep b hm; exact ⟨h1, h2, Nat.lt_of_lt_of_le h3 hb.size⟩

theorem nodup_flatten_get {α : Type} {ls : List (List α)} (h : ls.flatten.Nodup) : ∀ (i j : Nat) (x : α) (a b : List α), ls[i]? = some a → ls[j]? = some b → x ∈ a → x ∈ b → i = j := by
  induction ls with
  | nil => intro i j x a b h1; simp at h1
  | cons l ls ih =>
    simp only [List.flatten_cons] at h
    obtain ⟨n1, n2, n3⟩ := List.nodup_append.1 h
    intro i j x a b h1 h2 ha hb
    cases i with
    | zero =>
      cases j with
      | zero => rfl
      | succ j =>
        simp only [List.getElem?_cons_zero, Option.some.injEq, List.getElem?_cons_succ] at h1 h2
        subst h1
        exact absurd rfl (n3 x ha x (List.mem_flatten.2 ⟨b, List.mem_of_getElem? h2, hb⟩))
    | succ i =>
      cases j with
      | zero =>
        simp only [List.getElem?_cons_zero, Option.some.injEq, List.getElem?_cons_succ] at h1 h2
        subst h2
        exact absurd rfl (n3 x hb x (List.mem_flatten.2 ⟨a, List.mem_of_getElem? h1, ha⟩))
      | succ j =>
        simp only [List.getElem?_cons_succ] at h1 h2
        rw [ih n2 i j x a b h1 h2 ha hb]

theorem nodup_of_flatten {α : Type} {ls : List (List α)} (h : ls.flatten.Nodup) {i : Nat} {a : List α} (hi : ls[i]? = some a) : a.Nodup := by
  induction ls generalizing i with
  | nil => simp at hi
  | cons l ls ih =>
    simp only [List.flatten_cons] at h
    obtain ⟨n1, n2, _⟩ := List.nodup_append.1 h
    cases i with
    | zero => simp only [List.getElem?_cons_zero, Option.some.injEq] at hi; subst hi; exact n1
    | succ i => exact ih n2 (by simpa using hi)

/-- A call's result, whose blocks are new since w1, becomes the caller's own. -/
theorem HRel.take {base : Nat} {w0 w1 w : World} {L : Nat → Option Loc} {N : Nat} {F : Nat → List Nat} {h : Heap} {r : AV} {v : Value} {S : List Nat}
    (H : HRel base w0 w1 L N F [] h) (hb : Below w1.heap.size w1 w) (hc : clean r = true) (hv : VR w Lo 0 r v S) (hn : S.Nodup) (hS : ∀ b ∈ S, w1.heap.size ≤ b ∧ b < w.heap.size) :
    ∃ L' F', HRel base w0 w L' (N + (col r).length) F' [] (addAll h N (col r)) ∧ VR w L' (N + (col r).length) (sub r N) v [] ∧ Ext w1 L N w L' (N + (col r).length) := by
  obtain ⟨ls, d, k⟩ := col_data r v S hc hv
  let L' : Nat → Option Loc := fun id => if N ≤ id then (match ls[id - N]? with | some p => some p.1 | Option.none => L id) else L id
  let F' : Nat → List Nat := fun id => if N ≤ id then (match ls[id - N]? with | some p => p.2 | Option.none => F id) else F id
  have hLN : ∀ id, N ≤ id → L id = Option.none := fun id hid => by
    cases hl : L id with
    | none => rfl
    | some l => exact absurd (H.lt id l hl) (by omega)
  have Lold : ∀ id, id < N → L' id = L id := fun id hid => by show (if N ≤ id then _ else _) = _; rw [if_neg (by omega)]
  have Fold : ∀ id, id < N → F' id = F id := fun id hid => by show (if N ≤ id then _ else _) = _; rw [if_neg (by omega)]
  have Lnew : ∀ i p, ls[i]? = some p → L' (N + i) = some p.1 := fun i p hp => by
    show (if N ≤ N + i then _ else _) = _; rw [if_pos (by omega), Nat.add_sub_cancel_left, hp]
  have Fnew : ∀ i p, ls[i]? = some p → F' (N + i) = p.2 := fun i p hp => by
    show (if N ≤ N + i then _ else _) = _; rw [if_pos (by omega), Nat.add_sub_cancel_left, hp]
  have Fcase : ∀ id b, b ∈ F' id → (b ∈ F id ∧ F' id = F id) ∨ ∃ i p, id = N + i ∧ ls[i]? = some p ∧ b ∈ p.2 := fun id b hm => by
    by_cases hid : N ≤ id
    · cases hp : ls[id - N]? with
      | none =>
        left
        have : F' id = F id := by show (if N ≤ id then _ else _) = _; rw [if_pos hid, hp]
        rw [this] at hm; exact ⟨hm, this⟩
      | some p =>
        right
        refine ⟨id - N, p, by omega, hp, ?_⟩
        have := Fnew (id - N) p hp
        rw [show N + (id - N) = id by omega] at this
        rw [this] at hm; exact hm
    · left; rw [Fold id (by omega)] at hm; exact ⟨hm, Fold id (by omega)⟩
  have Lcase : ∀ id l, L' id = some l → (id < N ∧ L id = some l) ∨ ∃ i f, id = N + i ∧ ls[i]? = some (l, f) := fun id l hl => by
    by_cases hid : N ≤ id
    · cases hp : ls[id - N]? with
      | none =>
        have : L' id = L id := by show (if N ≤ id then _ else _) = _; rw [if_pos hid, hp]
        rw [this, hLN id hid] at hl; cases hl
      | some p =>
        right
        have := Lnew (id - N) p hp
        rw [show N + (id - N) = id by omega] at this
        rw [this] at hl; cases hl
        exact ⟨id - N, p.2, by omega, hp⟩
    · left; rw [Lold id (by omega)] at hl; exact ⟨by omega, hl⟩
  have hSin : ∀ (i : Nat) (p : Loc × List Nat) (b : Nat), ls[i]? = some p → b ∈ blks p → b ∈ S := fun i p b hp hm => by
    rw [d.S]; exact List.mem_flatten.2 ⟨blks p, List.mem_map.2 ⟨p, List.mem_of_getElem? hp, rfl⟩, hm⟩
  have hnd : (ls.map blks).flatten.Nodup := d.S ▸ hn
  have hatb : ∀ (i b sz cap : Nat) (f : List Nat), ls[i]? = some (Loc.at b sz cap, f) → b ∈ S := fun i b sz cap f hp => hSin i _ b hp (by simp [blks])
  have hfin : ∀ (i : Nat) (p : Loc × List Nat) b, ls[i]? = some p → b ∈ p.2 → b ∈ S := fun i p b hp hm => hSin i p b hp (by
    unfold blks; split
    · exact List.mem_cons_of_mem _ hm
    · exact hm)
  have ownL' : ∀ b, Own L' b → Own L b ∨ b ∈ S := by
    rintro b ⟨id, sz, cap, hid⟩
    rcases Lcase id _ hid with ⟨_, hl⟩ | ⟨i, f, rfl, hp⟩
    · exact .inl ⟨id, sz, cap, hl⟩
    · exact .inr (hatb i b sz cap f hp)
  have e : Ext w1 L N w L' (N + (col r).length) := by
    refine ⟨by omega, ?_, hb.size, ?_⟩
    · intro id l hid hl; rw [Lold id hid] at hl; exact hl
    · intro b hlt ho
      refine ⟨hb.block b hlt, fun h' => ?_⟩
      rcases ownL' b h' with h' | h'
      · exact ho h'
      · have := (hS b h').1; omega
  have hlen := d.len
  have fpnew : ∀ (i : Nat) (p : Loc × List Nat) b, ls[i]? = some p → b ∈ p.2 → ¬ Own L' b := by
    rintro i ⟨l, f⟩ b hp hm ⟨id, sz, cap, hid⟩
    rcases Lcase id _ hid with ⟨_, hl⟩ | ⟨j, g, rfl, hq⟩
    · have h1 := H.own_lt ⟨id, sz, cap, hl⟩
      have h2 := (hS b (hfin i _ b hp hm)).1
      omega
    · have hij : i = j := nodup_flatten_get hnd i j b (blks (l, f)) (blks (Loc.at b sz cap, g)) (by rw [List.getElem?_map, hp]; rfl) (by rw [List.getElem?_map, hq]; rfl)
        (by unfold blks; split; exact List.mem_cons_of_mem _ hm; exact hm) (by simp [blks])
      subst hij
      rw [hp] at hq; cases hq
      have := nodup_of_flatten hnd (i := i) (a := blks (Loc.at b sz cap, f)) (by rw [List.getElem?_map, hp]; rfl)
      simp only [blks, List.nodup_cons] at this
      exact this.1 hm
  refine ⟨L', F', ⟨H.below.trans (hb.mono H.bsz), Nat.le_trans H.bsz hb.size, ?_, ?_, ?_, ?_, ?_, ?_, ?_, by simp, ?_, List.nodup_nil, ?_, by simp⟩, k L' N _ (Nat.le_refl _) Lnew, e⟩
  · intro id hid
    rw [addAll_eq] at hid
    by_cases hN : N ≤ id
    · rw [if_pos hN] at hid
      cases hr : (col r)[id - N]? with
      | none =>
        rw [hr] at hid
        have hls : ls[id - N]? = Option.none := by rw [List.getElem?_eq_none_iff] at hr ⊢; omega
        show (if N ≤ id then _ else _) = _
        rw [if_pos hN, hls]; exact hLN id hN
      | some r' => rw [hr] at hid; cases hid
    · rw [if_neg hN] at hid
      rw [Lold id (by omega)]; exact H.dom id hid
  · intro id hid
    rw [addAll_eq]
    by_cases hN : N ≤ id
    · rw [if_pos hN]
      cases hr : (col r)[id - N]? with
      | none => exact H.mod id (hLN id hN)
      | some r' =>
        have : id - N < ls.length := by rw [hlen]; exact (List.getElem?_eq_some_iff.1 hr).1
        have := Lnew (id - N) _ (List.getElem?_eq_getElem this)
        rw [show N + (id - N) = id by omega, hid] at this; cases this
    · rw [if_neg hN]; rw [Lold id (by omega)] at hid; exact H.mod id hid
  · intro id l hl
    rcases Lcase id l hl with ⟨h1, _⟩ | ⟨i, f, rfl, hp⟩
    · omega
    · have := (List.getElem?_eq_some_iff.1 hp).1; omega
  · intro id id' b sz cap sz' cap' h1 h2
    rcases Lcase id _ h1 with ⟨_, h1⟩ | ⟨i, f, rfl, hp⟩
    · rcases Lcase id' _ h2 with ⟨_, h2⟩ | ⟨i', f', rfl, hp'⟩
      · exact H.inj id id' b _ _ _ _ h1 h2
      · have g1 := H.own_lt ⟨id, sz, cap, h1⟩
        have g2 := (hS b (hatb i' b sz' cap' f' hp')).1
        omega
    · rcases Lcase id' _ h2 with ⟨_, h2⟩ | ⟨i', f', rfl, hp'⟩
      · have g1 := H.own_lt ⟨id', sz', cap', h2⟩
        have g2 := (hS b (hatb i b sz cap f hp)).1
        omega
      · rw [nodup_flatten_get hnd i i' b _ _ (by rw [List.getElem?_map, hp]; rfl) (by rw [List.getElem?_map, hp']; rfl) (by simp [blks]) (by simp [blks])]
  · intro b ho
    rcases ownL' b ho with h' | h'
    · exact H.lo b h'
    · exact Nat.le_trans H.bsz (hS b h').1
  · intro id B l h1 h2
    rcases Lcase id l h2 with ⟨hid, hl⟩ | ⟨i, f, rfl, hp⟩
    · rw [addAll_eq, if_neg (by omega)] at h1
      rw [Fold id hid]
      exact (H.blk id B l h1 hl).ext e fun b sz cap hl' => hb.block b (H.own_lt ⟨id, sz, cap, hl' ▸ hl⟩)
    · rw [Fnew i _ hp]
      rw [addAll_eq, if_pos (by omega), Nat.add_sub_cancel_left] at h1
      have hi : i < (col r).length := by have := (List.getElem?_eq_some_iff.1 hp).1; omega
      rw [List.getElem?_eq_getElem hi] at h1
      simp only [Option.some.injEq] at h1
      subst h1
      obtain ⟨g1, g2⟩ := d.brel i _ l f (List.getElem?_eq_getElem hi) hp
      cases l with
      | none => exact g1
      | «at» b sz cap =>
        obtain ⟨h0, _, cur, t, vals, rest, h1, h2, h3, h4, h5, h6, h7, h8, h9, h10⟩ := g1
        exact ⟨h0, by simp, cur, t, vals, rest, h1, h2, h3, h4, h5, h6, h7, h8, h9, VRr_env _ _ _ g2 (fun b hb => fpnew i _ b hp hb) h10⟩
  · intro id b hm
    rcases Fcase id b hm with ⟨h1, _⟩ | ⟨i, p, rfl, hp, hm'⟩
    · obtain ⟨g1, g2, g3⟩ := H.fp id b h1
      exact ⟨(e.block b g3 g1).2, g2, Nat.lt_of_lt_of_le g3 hb.size⟩
    · have := hS b (hfin i p b hp hm')
      exact ⟨fpnew i p b hp hm', Nat.le_trans H.bsz this.1, this.2⟩
  · intro id
    by_cases hid : N ≤ id
    · cases hp : ls[id - N]? with
      | none =>
        have : F' id = F id := by show (if N ≤ id then _ else _) = _; rw [if_pos hid, hp]
        rw [this]; exact H.nd id
      | some p =>
        have := Fnew (id - N) p hp
        rw [show N + (id - N) = id by omega] at this
        rw [this]
        have := nodup_of_flatten hnd (i := id - N) (a := blks p) (by rw [List.getElem?_map, hp]; rfl)
        unfold blks at this; split at this
        · exact (List.nodup_cons.1 this).2
        · exact this
    · rw [Fold id (by omega)]; exact H.nd id
  · intro id id' b h1 h2
    rcases Fcase id b h1 with ⟨h1, _⟩ | ⟨i, p, rfl, hp, hm⟩
    · rcases Fcase id' b h2 with ⟨h2, _⟩ | ⟨i', p', rfl, hp', hm'⟩
      · exact H.dj id id' b h1 h2
      · have g1 := (H.fp id b h1).2.2
        have g2 := (hS b (hfin i' p' b hp' hm')).1
        omega
    · rcases Fcase id' b h2 with ⟨h2, _⟩ | ⟨i', p', rfl, hp', hm'⟩
      · have g1 := (H.fp id' b h2).2.2
        have g2 := (hS b (hfin i p b hp hm)).1
        omega
      · have hin : ∀ (p : Loc × List Nat), b ∈ p.2 → b ∈ blks p := fun p hm => by unfold blks; split; exact List.mem_cons_of_mem _ hm; exact hm
        rw [nodup_flatten_get hnd i i' b (blks p) (blks p') (by rw [List.getElem?_map, hp]; rfl) (by rw [List.getElem?_map, hp']; rfl) (hin p hm) (hin p' hm')]

end Go.Proofs.Ytlefdibgonpoaaa
