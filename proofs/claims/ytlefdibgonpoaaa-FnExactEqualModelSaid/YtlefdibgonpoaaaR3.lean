/- The abstract heap against the model's memory. -/
import Derived.Test.YtlefdibgonpoaaaR2
namespace Go.Proofs.Ytlefdibgonpoaaa
open Go Go.RowKit

def BRel (w : World) (L : Nat → Option Loc) (N : Nat) (B : Blk) (l : Loc) (S : List Nat) : Prop :=
  match l with
  | .none => B.rows = [] ∧ S = []
  | .at b sz cap => sz = B.sz ∧ (B.box = true → S = []) ∧ ∃ cur t vals rest, w.heap[b]? = some (.cells cur t (0, 0)) ∧ cur.toList = vals ++ rest ∧ cur.size = cap * sz ∧ 0 < sz ∧ cap ≤ maxLen ∧
      B.rows.length ≤ cap ∧ B.rows.length ≤ LIM ∧ (∀ r ∈ B.rows, r.length = sz) ∧ one vals ∧ VRr w L (if B.box then N else 0) B.rows vals S

structure HRel (base : Nat) (w0 w : World) (L : Nat → Option Loc) (N : Nat) (F : Nat → List Nat) (E : List Nat) (h : Heap) : Prop where
  below : Below base w0 w
  bsz : base ≤ w.heap.size
  dom : ∀ id, h id = Option.none → L id = Option.none
  mod : ∀ id, L id = Option.none → h id = Option.none
  lt : ∀ id l, L id = some l → id < N
  inj : ∀ id id' b sz cap sz' cap', L id = some (.at b sz cap) → L id' = some (.at b sz' cap') → id = id'
  lo : ∀ b, Own L b → base ≤ b
  blk : ∀ id B l, h id = some B → L id = some l → BRel w L N B l (F id)
  fp : ∀ id b, b ∈ F id → ¬ Own L b ∧ base ≤ b ∧ b < w.heap.size
  ep : ∀ b, b ∈ E → ¬ Own L b ∧ base ≤ b ∧ b < w.heap.size
  nd : ∀ id, (F id).Nodup
  ne : E.Nodup
  dj : ∀ id id' b, b ∈ F id → b ∈ F id' → id = id'
  de : ∀ id b, b ∈ F id → b ∉ E

theorem Own.upd_none {L : Nat → Option Loc} {id b : Nat} (h : Own (upd L id Option.none) b) : Own L b := by
  obtain ⟨i, sz, cap, hi⟩ := h
  simp only [upd] at hi
  split at hi
  · cases hi
  · exact ⟨i, sz, cap, hi⟩

theorem upd_same {α : Type} (f : Nat → α) (k : Nat) (v : α) : upd f k v k = v := by simp [upd]
theorem upd_other {α : Type} (f : Nat → α) (k : Nat) (v : α) (i : Nat) (h : i ≠ k) : upd f k v i = f i := by simp [upd, h]

theorem upd_none_some {L : Nat → Option Loc} {id i : Nat} {l : Loc} (h : upd L id Option.none i = some l) : i ≠ id ∧ L i = some l := by
  simp only [upd] at h
  split at h
  · cases h
  · exact ⟨by assumption, h⟩

/-- An id dies: nothing that is left turns. -/
theorem Ext.kill (w : World) (L : Nat → Option Loc) (N id : Nat) : Ext w L N w (upd L id Option.none) N :=
  ⟨Nat.le_refl _, fun _ _ _ h => (upd_none_some h).2, Nat.le_refl _, fun _ _ h => ⟨rfl, fun h' => h h'.upd_none⟩⟩

theorem Ext.trans {w w' w'' : World} {L L' L'' : Nat → Option Loc} {N N' N'' : Nat} (h : Ext w L N w' L' N') (k : Ext w' L' N' w'' L'' N'') : Ext w L N w'' L'' N'' :=
  ⟨Nat.le_trans h.n k.n, fun id l hid hl => h.old id l hid (k.old id l (Nat.lt_of_lt_of_le hid h.n) hl), Nat.le_trans h.size k.size,
    fun b hb ho => let ⟨h1, h2⟩ := h.block b hb ho; let ⟨k1, k2⟩ := k.block b (Nat.lt_of_lt_of_le hb h.size) h2; ⟨k1.trans h1, k2⟩⟩

theorem BRel.ext {w w' : World} {L L' : Nat → Option Loc} {N N' : Nat} {B : Blk} {l : Loc} {S : List Nat} (e : Ext w L N w' L' N')
    (hb : ∀ b sz cap, l = .at b sz cap → w'.heap[b]? = w.heap[b]?) (h : BRel w L N B l S) : BRel w' L' N' B l S := by
  cases l with
  | none => exact h
  | «at» b sz cap =>
    obtain ⟨h0, h0', cur, t, vals, rest, h1, h2, h3, h4, h5, h6, h7, h8, h9, h10⟩ := h
    exact ⟨h0, h0', cur, t, vals, rest, (hb b sz cap rfl).trans h1, h2, h3, h4, h5, h6, h7, h8, h9, by cases hB : B.box <;> simp only [hB, if_true, if_false, Bool.false_eq_true] at h10 ⊢ <;> first | exact VRr_ext e _ _ _ h10 | exact VRr_ext e.zero _ _ _ h10⟩

section
variable {base : Nat} {w0 w : World} {L : Nat → Option Loc} {N : Nat} {F : Nat → List Nat} {E : List Nat} {h : Heap}

theorem HRel.own_lt (H : HRel base w0 w L N F E h) {b : Nat} (ho : Own L b) : b < w.heap.size := by
  obtain ⟨id, sz, cap, hl⟩ := ho
  cases hh : h id with
  | none => rw [H.dom id hh] at hl; cases hl
  | some B =>
    obtain ⟨_, _, cur, t, vals, rest, h1, _⟩ := H.blk id B _ hh hl
    exact lt_of_heap h1

theorem VRr_take {rows : List (List AV)} {vals : List Value} {S : List Nat} (n : Nat) (hr : VRr w L N rows vals S) :
    ∃ v1 v2 S1 S2, vals = v1 ++ v2 ∧ S = S1 ++ S2 ∧ VRr w L N (rows.take n) v1 S1 ∧ VRr w L N (rows.drop n) v2 S2 := by
  rw [VRr_iff] at hr
  rw [← List.take_append_drop n rows, List.flatten_append, VRl_append] at hr
  obtain ⟨v1, v2, S1, S2, e1, e2, h1, h2⟩ := hr
  exact ⟨v1, v2, S1, S2, e1, e2, VRr_iff.2 h1, VRr_iff.2 h2⟩

/-- A slice that was being built is given away. -/
theorem HRel.give (H : HRel base w0 w L N F E h) {id len : Nat} {B : Blk} {v : Value} (hB : h id = some B) (hbox : B.box = false) (hlen : len ≤ B.rows.length)
    (hv : VR w L N (.ref id 0 len) v []) :
    ∃ S, HRel base w0 w (upd L id Option.none) N (upd F id []) (S ++ E) (upd h id Option.none) ∧ VR w (upd L id Option.none) 0 (.us B.sz (B.rows.take len)) v S := by
  have e := Ext.kill w L N id
  cases hl : L id with
  | none => rw [H.mod id hl] at hB; cases hB
  | some l =>
    simp only [VR] at hv
    have hr := hv.1.2.2 l hl
    have hbr := H.blk id B l hB hl
    have hlenT : (B.rows.take len).length = len := by simp [hlen]
    -- what is common to both ways
    have common : ∀ S : List Nat, (∀ b ∈ S, ¬ Own (upd L id Option.none) b ∧ base ≤ b ∧ b < w.heap.size) → S.Nodup → (∀ b ∈ S, b ∉ E) → (∀ i b, i ≠ id → b ∈ F i → b ∉ S) →
        HRel base w0 w (upd L id Option.none) N (upd F id []) (S ++ E) (upd h id Option.none) := by
      intro S s1 s2 s3 s4
      refine ⟨H.below, H.bsz, ?_, ?_, ?_, ?_, ?_, ?_, ?_, ?_, ?_, ?_, ?_, ?_⟩
      · intro i hi; simp only [upd] at hi ⊢; split <;> rename_i hx <;> simp only [hx, if_true, if_false] at hi ⊢; exact H.dom i hi
      · intro i hi; simp only [upd] at hi ⊢; split <;> rename_i hx <;> simp only [hx, if_true, if_false] at hi ⊢; exact H.mod i hi
      · intro i l' hi; exact H.lt i l' (upd_none_some hi).2
      · intro i i' b sz cap sz' cap' hi hi'; exact H.inj i i' b sz cap sz' cap' (upd_none_some hi).2 (upd_none_some hi').2
      · intro b ho; exact H.lo b ho.upd_none
      · intro i B' l' hi hl'
        obtain ⟨hne, hl''⟩ := upd_none_some hl'
        rw [upd_other _ _ _ _ hne] at hi
        rw [upd_other _ _ _ _ hne]
        exact (H.blk i B' l' hi hl'').ext e fun _ _ _ _ => rfl
      · intro i b hb
        by_cases hne : i = id
        · subst hne; rw [upd_same] at hb; cases hb
        · rw [upd_other _ _ _ _ hne] at hb
          have := H.fp i b hb
          exact ⟨fun h' => this.1 h'.upd_none, this.2⟩
      · intro b hb
        rcases List.mem_append.1 hb with hb | hb
        · exact s1 b hb
        · have := H.ep b hb
          exact ⟨fun h' => this.1 h'.upd_none, this.2⟩
      · intro i
        by_cases hne : i = id
        · subst hne; rw [upd_same]; exact List.nodup_nil
        · rw [upd_other _ _ _ _ hne]; exact H.nd i
      · exact List.nodup_append.2 ⟨s2, H.ne, fun a ha b hb hab => s3 a ha (hab ▸ hb)⟩
      · intro i i' b hb hb'
        by_cases hne : i = id
        · subst hne; rw [upd_same] at hb; cases hb
        · by_cases hne' : i' = id
          · subst hne'; rw [upd_same] at hb'; cases hb'
          · rw [upd_other _ _ _ _ hne] at hb; rw [upd_other _ _ _ _ hne'] at hb'; exact H.dj i i' b hb hb'
      · intro i b hb
        by_cases hne : i = id
        · subst hne; rw [upd_same] at hb; cases hb
        · rw [upd_other _ _ _ _ hne] at hb
          intro hb'
          rcases List.mem_append.1 hb' with hb' | hb'
          · exact s4 i b hne hb hb'
          · exact H.de i b hb hb'
    cases l with
    | none =>
      obtain ⟨hrows, hF⟩ := hbr
      obtain ⟨_, _, hl0, rfl⟩ := hr
      refine ⟨[], common [] (by simp) List.nodup_nil (by simp) (by simp), ?_⟩
      simp only [VR, hrows, List.take_nil]
      exact ⟨Nat.zero_le _, .inl ⟨trivial, trivial, trivial⟩⟩
    | «at» b sz cap =>
      obtain ⟨rfl, _, cur, t, vals, rest, h1, h2, h3, h4, h5, h6, h7, h8, h9, h10⟩ := hbr
      obtain ⟨hlim, A, rfl, hA, hcap⟩ := hr
      have hA := hA (.inr rfl)
      subst hA
      simp only [hbox, if_false, Bool.false_eq_true] at h10
      obtain ⟨v1, v2, S1, S2, rfl, hS, g1, g2⟩ := VRr_take len (VRr_ext e.zero _ _ _ h10)
      have hbown : Own L b := ⟨id, _, cap, hl⟩
      have hnb : ¬ Own (upd L id Option.none) b := by
        rintro ⟨i, sz', cap', hi⟩
        obtain ⟨hne, hi⟩ := upd_none_some hi
        exact hne (H.inj i id b _ _ _ _ hi hl)
      have hbF : ∀ i, b ∉ F i := fun i hb => (H.fp i b hb).1 hbown
      refine ⟨b :: S1, common (b :: S1) ?_ ?_ ?_ ?_, ?_⟩
      · intro c hc
        rcases List.mem_cons.1 hc with rfl | hc
        · exact ⟨hnb, H.lo _ hbown, lt_of_heap h1⟩
        · have := H.fp id c (by rw [hS]; simp [hc])
          exact ⟨fun h' => this.1 h'.upd_none, this.2⟩
      · refine List.nodup_cons.2 ⟨fun hc => hbF id (by rw [hS]; simp [hc]), ?_⟩
        have := H.nd id; rw [hS] at this; exact (List.nodup_append.1 this).1
      · intro c hc
        rcases List.mem_cons.1 hc with rfl | hc
        · exact fun hE => (H.ep _ hE).1 hbown
        · exact H.de id c (by rw [hS]; simp [hc])
      · intro i c hne hc hc'
        rcases List.mem_cons.1 hc' with rfl | hc'
        · exact hbF i hc
        · exact hne (H.dj i id c hc (by rw [hS]; simp [hc']))
      · simp only [VR, hlenT]
        refine ⟨hlim, .inr ⟨b, cap, cur, t, v1, v2 ++ rest, S1, by simp, rfl, hnb, h1, by rw [h2, List.append_assoc], h3, h4, by omega, h5, fun r hr => h8 r (List.mem_of_mem_take hr), fun v hv => h9 v (by simp [hv]), g1⟩⟩

theorem HRel.eperm (H : HRel base w0 w L N F E h) {E' : List Nat} (hp : E.Perm E') : HRel base w0 w L N F E' h :=
  ⟨H.below, H.bsz, H.dom, H.mod, H.lt, H.inj, H.lo, H.blk, H.fp, fun b hb => H.ep b (hp.mem_iff.2 hb), H.nd, hp.nodup_iff.1 H.ne, H.dj, fun id b hb h' => H.de id b hb (hp.mem_iff.2 h')⟩
end

mutual
theorem dt_sound {base : Nat} {w0 w : World} {N : Nat} : ∀ (a : AV) {L : Nat → Option Loc} {F : Nat → List Nat} {E : List Nat} {h : Heap} {v : Value} {a' : AV} {h' : Heap},
    HRel base w0 w L N F E h → VR w L N a v [] → dt a h = some (a', h') →
    ∃ L' F' S, HRel base w0 w L' N F' (S ++ E) h' ∧ VR w L' 0 a' v S ∧ Ext w L N w L' N
  | .undef, L, F, E, h, v, a', h', H, _, hd => by simp [dt] at hd
  | .int .., L, F, E, h, v, a', h', H, hv, hd => by
    simp only [dt, Option.some.injEq, Prod.mk.injEq] at hd; obtain ⟨rfl, rfl⟩ := hd
    exact ⟨L, F, [], H, by simpa only [VR] using hv, Ext.refl _ _ _⟩
  | .bool _, L, F, E, h, v, a', h', H, hv, hd => by
    simp only [dt, Option.some.injEq, Prod.mk.injEq] at hd; obtain ⟨rfl, rfl⟩ := hd
    exact ⟨L, F, [], H, by simpa only [VR] using hv, Ext.refl _ _ _⟩
  | .str _, L, F, E, h, v, a', h', H, hv, hd => by
    simp only [dt, Option.some.injEq, Prod.mk.injEq] at hd; obtain ⟨rfl, rfl⟩ := hd
    exact ⟨L, F, [], H, by simpa only [VR] using hv, Ext.refl _ _ _⟩
  | .nilp, L, F, E, h, v, a', h', H, hv, hd => by
    simp only [dt, Option.some.injEq, Prod.mk.injEq] at hd; obtain ⟨rfl, rfl⟩ := hd
    exact ⟨L, F, [], H, by simpa only [VR] using hv, Ext.refl _ _ _⟩
  | .nil _, L, F, E, h, v, a', h', H, hv, hd => by
    simp only [dt, Option.some.injEq, Prod.mk.injEq] at hd; obtain ⟨rfl, rfl⟩ := hd
    refine ⟨L, F, [], H, ?_, Ext.refl _ _ _⟩
    simp only [VR] at hv ⊢
    exact ⟨Nat.zero_le _, .inl ⟨hv.1, trivial, trivial⟩⟩
  | .ptr .., L, F, E, h, v, a', h', H, _, hd => by simp [dt] at hd
  | .mp _, L, F, E, h, v, a', h', H, _, hd => by simp [dt] at hd
  | .fptr .., L, F, E, h, v, a', h', H, hv, hd => by
    simp only [dt, Option.some.injEq, Prod.mk.injEq] at hd; obtain ⟨rfl, rfl⟩ := hd
    exact ⟨L, F, [], H, by simpa only [VR] using hv, Ext.refl _ _ _⟩
  | .sl .., L, F, E, h, v, a', h', H, hv, hd => by
    simp only [dt, Option.some.injEq, Prod.mk.injEq] at hd; obtain ⟨rfl, rfl⟩ := hd
    exact ⟨L, F, [], H, by simpa only [VR] using hv, Ext.refl _ _ _⟩
  | .us .., L, F, E, h, v, a', h', H, hv, hd => by
    simp only [dt, Option.some.injEq, Prod.mk.injEq] at hd; obtain ⟨rfl, rfl⟩ := hd
    exact ⟨L, F, [], H, by simpa only [VR] using hv, Ext.refl _ _ _⟩
  | .fn f fi ca, L, F, E, h, v, a', h', H, hv, hd => by
    cases fi with
    | cons => simp [dt] at hd
    | nil =>
      cases ca with
      | cons => simp [dt] at hd
      | nil =>
        simp only [dt, Option.some.injEq, Prod.mk.injEq] at hd; obtain ⟨rfl, rfl⟩ := hd
        exact ⟨L, F, [], H, by simpa only [VR, VRl] using hv, Ext.refl _ _ _⟩
  | .ref id off len, L, F, E, h, v, a', h', H, hv, hd => by
    simp only [dt] at hd
    split at hd
    · rename_i B hB
      split at hd
      · rename_i hc
        obtain ⟨rfl, hbox, hlen⟩ := hc
        simp only [Option.some.injEq, Prod.mk.injEq] at hd; obtain ⟨rfl, rfl⟩ := hd
        obtain ⟨S, h1, h2⟩ := H.give hB hbox hlen hv
        exact ⟨_, _, S, h1, h2, Ext.kill _ _ _ _⟩
      · cases hd
    · cases hd
  | .agg cs, L, F, E, h, v, a', h', H, hv, hd => by
    simp only [dt, Option.map_eq_some_iff] at hd
    obtain ⟨⟨cs', h''⟩, hd, he⟩ := hd
    simp only [Prod.mk.injEq] at he; obtain ⟨rfl, rfl⟩ := he
    simp only [VR] at hv
    obtain ⟨vs, rfl, hv⟩ := hv
    obtain ⟨L', F', S, h1, h2, h3⟩ := dtl_sound cs H hv hd
    exact ⟨L', F', S, h1, by simp only [VR]; exact ⟨vs, rfl, h2⟩, h3⟩
  | .tup cs, L, F, E, h, v, a', h', H, hv, hd => by
    simp only [dt, Option.map_eq_some_iff] at hd
    obtain ⟨⟨cs', h''⟩, hd, he⟩ := hd
    simp only [Prod.mk.injEq] at he; obtain ⟨rfl, rfl⟩ := he
    simp only [VR] at hv
    obtain ⟨vs, rfl, hv⟩ := hv
    obtain ⟨L', F', S, h1, h2, h3⟩ := dtl_sound cs H hv hd
    exact ⟨L', F', S, h1, by simp only [VR]; exact ⟨vs, rfl, h2⟩, h3⟩
theorem dtl_sound {base : Nat} {w0 w : World} {N : Nat} : ∀ (as : List AV) {L : Nat → Option Loc} {F : Nat → List Nat} {E : List Nat} {h : Heap} {vs : List Value} {as' : List AV} {h' : Heap},
    HRel base w0 w L N F E h → VRl w L N as vs [] → dtl as h = some (as', h') →
    ∃ L' F' S, HRel base w0 w L' N F' (S ++ E) h' ∧ VRl w L' 0 as' vs S ∧ Ext w L N w L' N
  | [], L, F, E, h, vs, as', h', H, hv, hd => by
    simp only [dtl, Option.some.injEq, Prod.mk.injEq] at hd; obtain ⟨rfl, rfl⟩ := hd
    exact ⟨L, F, [], H, by simpa only [VRl] using hv, Ext.refl _ _ _⟩
  | a :: as, L, F, E, h, vs, as', h', H, hv, hd => by
    simp only [dtl, Option.bind_eq_some_iff, Option.map_eq_some_iff] at hd
    obtain ⟨⟨a1, h1⟩, hd1, ⟨as2, h2⟩, hd2, he⟩ := hd
    simp only [Prod.mk.injEq] at he; obtain ⟨rfl, rfl⟩ := he
    obtain ⟨v, vs', rfl, hv1, hv2⟩ := VRl_nil_cons.1 hv
    obtain ⟨L1, F1, S1, g1, g2, g3⟩ := dt_sound a H hv1 hd1
    obtain ⟨L2, F2, S2, k1, k2, k3⟩ := dtl_sound as g1 (VRl_ext g3 _ _ _ hv2) hd2
    refine ⟨L2, F2, S1 ++ S2, k1.eperm ?_, ?_, g3.trans k3⟩
    · rw [← List.append_assoc]; exact List.Perm.append_right _ List.perm_append_comm
    · simp only [VRl]; exact ⟨v, vs', S1, S2, rfl, rfl, VR_ext k3.zero _ _ _ g2, k2⟩
end

end Go.Proofs.Ytlefdibgonpoaaa
