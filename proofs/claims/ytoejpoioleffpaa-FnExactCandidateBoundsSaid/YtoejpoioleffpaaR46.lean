/- A result whose blocks lie in boxes, or not, is given away as a tree. -/
import Derived.Test.YtoejpoioleffpaaRE
namespace Go.Proofs.Ytoejpoioleffpaa
set_option linter.all false
open Go Go.RowKit

mutual
/-- The tree t, at a, in blocks of the ids I; a block is a box, or holds its rows itself. -/
def GR (h : Heap) : AV → AV → List Nat → Prop
  | .us sz rows, a, I => (a = .nil sz ∧ rows = [] ∧ I = []) ∨ ∃ id I', a = .ref id 0 rows.length ∧ I = id :: I' ∧ ((h id = some ⟨false, sz, rows⟩ ∧ I' = []) ∨ ∃ rows', h id = some ⟨true, sz, rows'⟩ ∧ GRr h rows rows' I')
  | .agg cs, a, I => ∃ cs', a = .agg cs' ∧ GRl h cs cs' I
  | .tup cs, a, I => ∃ cs', a = .tup cs' ∧ GRl h cs cs' I
  | .int k n, a, I => a = .int k n ∧ I = []
  | .bool b, a, I => a = .bool b ∧ I = []
  | .str s, a, I => a = .str s ∧ I = []
  | .nilp, a, I => a = .nilp ∧ I = []
  | _, _, _ => False
def GRl (h : Heap) : List AV → List AV → List Nat → Prop
  | [], as, I => as = [] ∧ I = []
  | c :: cs, as, I => ∃ a as' I1 I2, as = a :: as' ∧ I = I1 ++ I2 ∧ GR h c a I1 ∧ GRl h cs as' I2
def GRr (h : Heap) : List (List AV) → List (List AV) → List Nat → Prop
  | [], rs, I => rs = [] ∧ I = []
  | r :: rows, rs, I => ∃ a rs' I1 I2, rs = a :: rs' ∧ I = I1 ++ I2 ∧ GRl h r a I1 ∧ GRr h rows rs' I2
end
section
variable {h h' : Heap}
mutual
theorem GR_frame : ∀ (t : AV) {a : AV} {I : List Nat}, (∀ id ∈ I, h' id = h id) → GR h t a I → GR h' t a I
  | .us sz rows, a, I, hf, ht => by
    simp only [GR] at ht ⊢
    rcases ht with ht | ⟨id, I', e1, rfl, e2 | ⟨rows', e2, e3⟩⟩
    · exact .inl ht
    · exact .inr ⟨id, I', e1, rfl, .inl ⟨(hf id (by simp)).trans e2.1, e2.2⟩⟩
    · exact .inr ⟨id, I', e1, rfl, .inr ⟨rows', (hf id (by simp)).trans e2, GRr_frame rows (fun id hi => hf id (by simp [hi])) e3⟩⟩
  | .agg cs, a, I, hf, ht => by
    simp only [GR] at ht ⊢
    obtain ⟨cs', e1, e2⟩ := ht
    exact ⟨cs', e1, GRl_frame cs hf e2⟩
  | .tup cs, a, I, hf, ht => by
    simp only [GR] at ht ⊢
    obtain ⟨cs', e1, e2⟩ := ht
    exact ⟨cs', e1, GRl_frame cs hf e2⟩
  | .int .., _, _, _, ht | .bool _, _, _, _, ht | .str _, _, _, _, ht | .nilp, _, _, _, ht => by simpa only [GR] using ht
  | .undef, _, _, _, ht | .nil _, _, _, _, ht | .ptr .., _, _, _, ht | .fptr .., _, _, _, ht | .ref .., _, _, _, ht | .sl .., _, _, _, ht | .fn .., _, _, _, ht | .mp _, _, _, _, ht => by simp only [GR] at ht
theorem GRl_frame : ∀ (ts : List AV) {as : List AV} {I : List Nat}, (∀ id ∈ I, h' id = h id) → GRl h ts as I → GRl h' ts as I
  | [], as, I, hf, ht => by simpa only [GRl] using ht
  | t :: ts, as, I, hf, ht => by
    simp only [GRl] at ht ⊢
    obtain ⟨a, as', I1, I2, e1, rfl, e2, e3⟩ := ht
    exact ⟨a, as', I1, I2, e1, rfl, GR_frame t (fun id hi => hf id (by simp [hi])) e2, GRl_frame ts (fun id hi => hf id (by simp [hi])) e3⟩
theorem GRr_frame : ∀ (ts : List (List AV)) {as : List (List AV)} {I : List Nat}, (∀ id ∈ I, h' id = h id) → GRr h ts as I → GRr h' ts as I
  | [], as, I, hf, ht => by simpa only [GRr] using ht
  | t :: ts, as, I, hf, ht => by
    simp only [GRr] at ht ⊢
    obtain ⟨a, as', I1, I2, e1, rfl, e2, e3⟩ := ht
    exact ⟨a, as', I1, I2, e1, rfl, GRl_frame t (fun id hi => hf id (by simp [hi])) e2, GRr_frame ts (fun id hi => hf id (by simp [hi])) e3⟩
end
mutual
theorem GR_of_TR : ∀ (t : AV) {a : AV} {I : List Nat}, clean t = true → TR h t a I → GR h t a I
  | .us sz rows, a, I, c, ht => by
    simp only [TR] at ht; simp only [clean] at c
    obtain ⟨id, rows', I', e1, rfl, e2, e3⟩ := ht
    simp only [GR]
    exact .inr ⟨id, I', e1, rfl, .inr ⟨rows', e2, GRr_of_TR rows c e3⟩⟩
  | .agg cs, a, I, c, ht => by
    simp only [TR] at ht; simp only [clean] at c; simp only [GR]
    obtain ⟨cs', e1, e2⟩ := ht
    exact ⟨cs', e1, GRl_of_TR cs c e2⟩
  | .tup cs, a, I, c, ht => by
    simp only [TR] at ht; simp only [clean] at c; simp only [GR]
    obtain ⟨cs', e1, e2⟩ := ht
    exact ⟨cs', e1, GRl_of_TR cs c e2⟩
  | .int .., _, _, _, ht | .bool _, _, _, _, ht | .str _, _, _, _, ht | .nilp, _, _, _, ht => by simp only [TR] at ht; simpa only [GR] using ht
  | .undef, _, _, _, ht | .nil _, _, _, _, ht | .ptr .., _, _, _, ht | .fptr .., _, _, _, ht | .ref .., _, _, _, ht | .sl .., _, _, _, ht | .fn .., _, _, _, ht | .mp _, _, _, _, ht => by simp only [TR] at ht
theorem GRl_of_TR : ∀ (ts : List AV) {as : List AV} {I : List Nat}, cleanl ts = true → TRl h ts as I → GRl h ts as I
  | [], as, I, c, ht => by simpa only [GRl, TRl] using ht
  | t :: ts, as, I, c, ht => by
    simp only [cleanl, Bool.and_eq_true] at c
    simp only [TRl] at ht; simp only [GRl]
    obtain ⟨a, as', I1, I2, e1, rfl, e2, e3⟩ := ht
    exact ⟨a, as', I1, I2, e1, rfl, GR_of_TR t c.1 e2, GRl_of_TR ts c.2 e3⟩
theorem GRr_of_TR : ∀ (ts : List (List AV)) {as : List (List AV)} {I : List Nat}, cleanr ts = true → TRr h ts as I → GRr h ts as I
  | [], as, I, c, ht => by simpa only [GRr, TRr] using ht
  | t :: ts, as, I, c, ht => by
    simp only [cleanr, Bool.and_eq_true] at c
    simp only [TRr] at ht; simp only [GRr]
    obtain ⟨a, as', I1, I2, e1, rfl, e2, e3⟩ := ht
    exact ⟨a, as', I1, I2, e1, rfl, GRl_of_TR t c.1 e2, GRr_of_TR ts c.2 e3⟩
end
theorem GRl_length : ∀ {ts as : List AV} {I : List Nat}, GRl h ts as I → as.length = ts.length
  | [], as, I, ht => by simp only [GRl] at ht; rw [ht.1]
  | t :: ts, as, I, ht => by
    simp only [GRl] at ht
    obtain ⟨a, as', I1, I2, rfl, _, _, e3⟩ := ht
    simp [GRl_length e3]
theorem GRr_length : ∀ {ts as : List (List AV)} {I : List Nat}, GRr h ts as I → as.length = ts.length
  | [], as, I, ht => by simp only [GRr] at ht; rw [ht.1]
  | t :: ts, as, I, ht => by
    simp only [GRr] at ht
    obtain ⟨a, as', I1, I2, rfl, _, _, e3⟩ := ht
    simp [GRr_length e3]
theorem GRr_rows : ∀ {ts as : List (List AV)} {I : List Nat}, GRr h ts as I → ∀ r ∈ ts, ∃ r' ∈ as, r'.length = r.length
  | [], as, I, ht, r, hr => by simp at hr
  | t :: ts, as, I, ht, r, hr => by
    simp only [GRr] at ht
    obtain ⟨a, as', I1, I2, rfl, _, e2, e3⟩ := ht
    rcases List.mem_cons.1 hr with rfl | hr
    · exact ⟨a, by simp, GRl_length e2⟩
    · obtain ⟨r', h1, h2⟩ := GRr_rows e3 r hr
      exact ⟨r', by simp [h1], h2⟩
theorem GRr_snoc : ∀ {ts as : List (List AV)} {I J : List Nat} {t a : List AV}, GRr h ts as I → GRl h t a J → GRr h (ts ++ [t]) (as ++ [a]) (I ++ J)
  | [], as, I, J, t, a, ht, h1 => by
    simp only [GRr] at ht; obtain ⟨rfl, rfl⟩ := ht
    simp only [List.nil_append, GRr]
    exact ⟨a, [], J, [], rfl, by simp, h1, rfl, rfl⟩
  | x :: ts, as, I, J, t, a, ht, h1 => by
    simp only [GRr] at ht
    obtain ⟨b, as', I1, I2, rfl, rfl, e2, e3⟩ := ht
    simp only [List.cons_append, GRr]
    exact ⟨b, as' ++ [a], I1, I2 ++ J, rfl, by simp, e2, GRr_snoc e3 h1⟩
end

/-- Where a block of a tree comes from. -/
def BSrc (L : Nat → Option Loc) (F : Nat → List Nat) (I : List Nat) (b : Nat) : Prop := ∃ id ∈ I, (∃ sz cap, L id = some (.at b sz cap)) ∨ b ∈ F id
section
variable {base : Nat} {w0 w : World} {L : Nat → Option Loc} {N : Nat} {F : Nat → List Nat} {E : List Nat} {h : Heap}
theorem src_meet (H : HRel base w0 w L N F E h) {I1 I2 : List Nat} {b : Nat} (h1 : BSrc L F I1 b) (h2 : BSrc L F I2 b) : ∃ id, id ∈ I1 ∧ id ∈ I2 := by
  obtain ⟨i, hi, h1⟩ := h1
  obtain ⟨j, hj, h2⟩ := h2
  rcases h1 with ⟨sz, cap, h1⟩ | h1 <;> rcases h2 with ⟨sz', cap', h2⟩ | h2
  · have := H.inj i j b _ _ _ _ h1 h2; subst this; exact ⟨i, hi, hj⟩
  · exact absurd ⟨i, sz, cap, h1⟩ (H.fp j b h2).1
  · exact absurd ⟨j, sz', cap', h2⟩ (H.fp i b h1).1
  · have := H.dj i j b h1 h2; subst this; exact ⟨i, hi, hj⟩
theorem src_in (H : HRel base w0 w L N F E h) {I : List Nat} {b : Nat} (h1 : BSrc L F I b) : base ≤ b ∧ (b < w.heap.size ∨ ∃ id ∈ I, ∃ sz cap, L id = some (.at b sz cap)) := by
  obtain ⟨i, hi, h1⟩ := h1
  rcases h1 with ⟨sz, cap, h1⟩ | h1
  · exact ⟨H.lo b ⟨i, sz, cap, h1⟩, .inr ⟨i, hi, sz, cap, h1⟩⟩
  · exact ⟨(H.fp i b h1).2.1, .inl (H.fp i b h1).2.2⟩
theorem BSrc.left {I J : List Nat} {b : Nat} (x : BSrc L F I b) : BSrc L F (I ++ J) b := by obtain ⟨i, hi, x⟩ := x; exact ⟨i, List.mem_append_left _ hi, x⟩
theorem BSrc.right {I J : List Nat} {b : Nat} (x : BSrc L F J b) : BSrc L F (I ++ J) b := by obtain ⟨i, hi, x⟩ := x; exact ⟨i, List.mem_append_right _ hi, x⟩
theorem nodup_src (H : HRel base w0 w L N F E h) {I1 I2 S1 S2 : List Nat} (hI : (I1 ++ I2).Nodup) (h1 : ∀ b ∈ S1, BSrc L F I1 b) (h2 : ∀ b ∈ S2, BSrc L F I2 b) (n1 : S1.Nodup) (n2 : S2.Nodup) : (S1 ++ S2).Nodup := by
  rw [List.nodup_append]
  refine ⟨n1, n2, ?_⟩
  rintro b hb c hc rfl
  obtain ⟨id, g1, g2⟩ := src_meet H (h1 b hb) (h2 b hc)
  exact (List.nodup_append.1 hI).2.2 id g1 id g2 rfl

mutual
theorem GR_give (H : HRel base w0 w L N F E h) : ∀ (t : AV) {a : AV} {I : List Nat} {v : Value} {M : Nat}, clean t = true → I.Nodup → GR h t a I → VR w L M a v [] →
    ∃ S, VR w Lo 0 t v S ∧ S.Nodup ∧ ∀ b ∈ S, BSrc L F I b ∧ b < w.heap.size
  | .undef, _, _, _, _, _, _, ht, _ | .nil _, _, _, _, _, _, _, ht, _ | .ptr .., _, _, _, _, _, _, ht, _ | .fptr .., _, _, _, _, _, _, ht, _ | .ref .., _, _, _, _, _, _, ht, _ | .sl .., _, _, _, _, _, _, ht, _ | .fn .., _, _, _, _, _, _, ht, _ | .mp _, _, _, _, _, _, _, ht, _ => by simp only [GR] at ht
  | .int .., a, I, v, M, c, hI, ht, hv => by simp only [GR] at ht; obtain ⟨rfl, _⟩ := ht; exact ⟨[], by simpa only [VR] using hv, List.nodup_nil, by simp⟩
  | .bool _, a, I, v, M, c, hI, ht, hv => by simp only [GR] at ht; obtain ⟨rfl, _⟩ := ht; exact ⟨[], by simpa only [VR] using hv, List.nodup_nil, by simp⟩
  | .str _, a, I, v, M, c, hI, ht, hv => by simp only [GR] at ht; obtain ⟨rfl, _⟩ := ht; exact ⟨[], by simpa only [VR] using hv, List.nodup_nil, by simp⟩
  | .nilp, a, I, v, M, c, hI, ht, hv => by simp only [GR] at ht; obtain ⟨rfl, _⟩ := ht; exact ⟨[], by simpa only [VR] using hv, List.nodup_nil, by simp⟩
  | .agg cs, a, I, v, M, c, hI, ht, hv => by
    simp only [GR] at ht; obtain ⟨cs', rfl, ht⟩ := ht
    simp only [clean] at c
    simp only [VR] at hv ⊢
    obtain ⟨vs, rfl, hv⟩ := hv
    obtain ⟨S, g1, g2, g3⟩ := GRl_give H cs c hI ht hv
    exact ⟨S, ⟨vs, rfl, g1⟩, g2, g3⟩
  | .tup cs, a, I, v, M, c, hI, ht, hv => by
    simp only [GR] at ht; obtain ⟨cs', rfl, ht⟩ := ht
    simp only [clean] at c
    simp only [VR] at hv ⊢
    obtain ⟨vs, rfl, hv⟩ := hv
    obtain ⟨S, g1, g2, g3⟩ := GRl_give H cs c hI ht hv
    exact ⟨S, ⟨vs, rfl, g1⟩, g2, g3⟩
  | .us sz rows, a, I, v, M, c, hI, ht, hv => by
    simp only [GR] at ht
    simp only [clean] at c
    rcases ht with ⟨rfl, rfl, rfl⟩ | ⟨id, I', rfl, rfl, hB⟩
    · simp only [VR] at hv ⊢
      exact ⟨[], by simpa using hv.1, List.nodup_nil, by simp⟩
    · obtain ⟨B, hid⟩ : ∃ B, h id = some B := by rcases hB with ⟨hB, _⟩ | ⟨_, hB, _⟩ <;> exact ⟨_, hB⟩
      cases hl : L id with
      | none => rw [H.mod id hl] at hid; cases hid
      | some l =>
        simp only [VR] at hv
        have hr := hv.1.2.2 l hl
        have hbr := H.blk id B l hid hl
        cases l with
        | none =>
          obtain ⟨_, _, hl0, rfl⟩ := hr
          have hr0 : rows = [] := List.eq_nil_of_length_eq_zero hl0
          subst hr0
          simp only [VR]
          exact ⟨[], by simp, List.nodup_nil, by simp⟩
        | «at» b sz' cap =>
          obtain ⟨hlim, A, rfl, hA, hcap⟩ := hr
          obtain ⟨rfl, hF, cur, t, vals, rest, h1, h2, h3, h4, h5, h6, h7, h8, h9, h10⟩ := hbr.cells hcap.2
          have hA : A = some ⟨b, 0, Option.none⟩ := by simpa using hA (.inr rfl)
          subst hA
          have hsrc : BSrc L F (id :: I') b := ⟨id, by simp, .inl ⟨_, _, hl⟩⟩
          have hblt := lt_of_heap h1
          rcases hB with ⟨hB, rfl⟩ | ⟨rows', hB, hR⟩
          · rw [hB, Option.some.injEq] at hid
            subst hid
            simp only [Bool.false_eq_true, if_false] at h10
            refine ⟨b :: F id, ?_, ?_, ?_⟩
            · simp only [VR]
              refine ⟨hlim, .inr ⟨b, cap, cur, t, vals, rest, F id, by simp, rfl, not_own_Lo b, h1, h2, h3, h4, by omega, h5, h8, h9, ?_⟩⟩
              exact VRr_env rows vals (F id) c (fun b _ => not_own_Lo b) h10
            · rw [List.nodup_cons]
              exact ⟨fun hb => (H.fp id b hb).1 ⟨id, _, _, hl⟩, H.nd id⟩
            · intro x hx
              rcases List.mem_cons.1 hx with rfl | hx
              · exact ⟨hsrc, hblt⟩
              · exact ⟨⟨id, by simp, .inr hx⟩, (H.fp id x hx).2.2⟩
          · rw [hB, Option.some.injEq] at hid
            subst hid
            simp only [if_true] at h10
            rw [hF rfl] at h10
            have hI' := List.nodup_cons.1 hI
            obtain ⟨S, g1, g2, g3⟩ := GRr_give H rows c hI'.2 hR h10
            refine ⟨b :: S, ?_, ?_, ?_⟩
            · simp only [VR]
              refine ⟨hlim, .inr ⟨b, cap, cur, t, vals, rest, S, by simp, rfl, not_own_Lo b, h1, h2, h3, h4, by omega, h5, ?_, h9, g1⟩⟩
              intro r hr
              obtain ⟨r', k1, k2⟩ := GRr_rows hR r hr
              rw [← k2]; exact h8 r' k1
            · rw [List.nodup_cons]
              refine ⟨fun hb => ?_, g2⟩
              obtain ⟨j, q1, q2⟩ := src_meet H (I1 := [id]) (b := b) ⟨id, by simp, .inl ⟨_, _, hl⟩⟩ (g3 b hb).1
              simp only [List.mem_singleton] at q1
              subst q1
              exact hI'.1 q2
            · intro x hx
              rcases List.mem_cons.1 hx with rfl | hx
              · exact ⟨hsrc, hblt⟩
              · exact ⟨BSrc.right (I := [id]) (g3 x hx).1, (g3 x hx).2⟩
theorem GRl_give (H : HRel base w0 w L N F E h) : ∀ (ts : List AV) {as : List AV} {I : List Nat} {vs : List Value} {M : Nat}, cleanl ts = true → I.Nodup → GRl h ts as I → VRl w L M as vs [] →
    ∃ S, VRl w Lo 0 ts vs S ∧ S.Nodup ∧ ∀ b ∈ S, BSrc L F I b ∧ b < w.heap.size
  | [], as, I, vs, M, c, hI, ht, hv => by
    simp only [GRl] at ht; obtain ⟨rfl, _⟩ := ht
    simp only [VRl] at hv ⊢
    exact ⟨[], ⟨hv.1, rfl⟩, List.nodup_nil, by simp⟩
  | t :: ts, as, I, vs, M, c, hI, ht, hv => by
    simp only [GRl] at ht; obtain ⟨a, as', I1, I2, rfl, rfl, h1, h2⟩ := ht
    simp only [cleanl, Bool.and_eq_true] at c
    obtain ⟨v, vs', rfl, g1, g2⟩ := VRl_nil_cons.1 hv
    have hn := List.nodup_append.1 hI
    obtain ⟨S1, k1, k2, k3⟩ := GR_give H t c.1 hn.1 h1 g1
    obtain ⟨S2, q1, q2, q3⟩ := GRl_give H ts c.2 hn.2.1 h2 g2
    refine ⟨S1 ++ S2, ?_, nodup_src H hI (fun b hb => (k3 b hb).1) (fun b hb => (q3 b hb).1) k2 q2, ?_⟩
    · simp only [VRl]; exact ⟨v, vs', S1, S2, rfl, rfl, k1, q1⟩
    · intro b hb
      rcases List.mem_append.1 hb with hb | hb
      · exact ⟨(k3 b hb).1.left, (k3 b hb).2⟩
      · exact ⟨(q3 b hb).1.right, (q3 b hb).2⟩
theorem GRr_give (H : HRel base w0 w L N F E h) : ∀ (ts : List (List AV)) {as : List (List AV)} {I : List Nat} {vs : List Value} {M : Nat}, cleanr ts = true → I.Nodup → GRr h ts as I → VRr w L M as vs [] →
    ∃ S, VRr w Lo 0 ts vs S ∧ S.Nodup ∧ ∀ b ∈ S, BSrc L F I b ∧ b < w.heap.size
  | [], as, I, vs, M, c, hI, ht, hv => by
    simp only [GRr] at ht; obtain ⟨rfl, _⟩ := ht
    simp only [VRr] at hv ⊢
    exact ⟨[], ⟨hv.1, rfl⟩, List.nodup_nil, by simp⟩
  | t :: ts, as, I, vs, M, c, hI, ht, hv => by
    simp only [GRr] at ht; obtain ⟨a, as', I1, I2, rfl, rfl, h1, h2⟩ := ht
    simp only [cleanr, Bool.and_eq_true] at c
    simp only [VRr] at hv
    obtain ⟨v1, v2, T1, T2, rfl, hT, g1, g2⟩ := hv
    obtain ⟨rfl, rfl⟩ := List.append_eq_nil_iff.1 hT.symm
    have hn := List.nodup_append.1 hI
    obtain ⟨S1, k1, k2, k3⟩ := GRl_give H t c.1 hn.1 h1 g1
    obtain ⟨S2, q1, q2, q3⟩ := GRr_give H ts c.2 hn.2.1 h2 g2
    refine ⟨S1 ++ S2, ?_, nodup_src H hI (fun b hb => (k3 b hb).1) (fun b hb => (q3 b hb).1) k2 q2, ?_⟩
    · simp only [VRr]; exact ⟨v1, v2, S1, S2, rfl, rfl, k1, q1⟩
    · intro b hb
      rcases List.mem_append.1 hb with hb | hb
      · exact ⟨(k3 b hb).1.left, (k3 b hb).2⟩
      · exact ⟨(q3 b hb).1.right, (q3 b hb).2⟩
end
end

/-- From a body to a claim of data alone, where the result lies in boxes. -/
theorem holds_of_acallG {P : Program} {f : FuncId} {as : List AV} {Q : AV → Prop} (h : ACall P f as noHeap 0 fun r h _ => ∃ t I, GR h t r I ∧ I.Nodup ∧ clean t = true ∧ Q t) : Holds P f as Q := by
  refine ⟨h.1, fun w vs hv => ?_⟩
  have H0 : HRel w.heap.size w w Lo 0 (fun _ => []) [] noHeap :=
    ⟨Below.refl _ _, Nat.le_refl _, fun _ _ => rfl, fun _ _ => rfl, (fun _ _ h => by cases h), (fun _ _ _ _ _ _ _ h => by cases h), fun b h => absurd h (not_own_Lo b), (fun _ _ _ h => by cases h), by simp, by simp, by simp, by simp, by simp, by simp⟩
  refine (h.2 w.heap.size w w Lo (fun _ => []) vs H0 hv).mono ?_
  rintro e w' ⟨v, r, L', n', F', h', rfl, H', hext, hr, t, I, g1, g2, g3, g4⟩
  obtain ⟨S, k1, k2, k3⟩ := GR_give H' t g3 g2 g1 hr
  exact ⟨v, t, S, rfl, g4, g3, H'.below, k1, k2, fun b hb => ⟨(src_in H' (k3 b hb).1).1, (k3 b hb).2⟩⟩
def finG (res : List RV) (Q : AV → Prop) : Fin := fun e s h _ => match e with
  | .exit _ => False
  | _ => onO (resAs s h res) fun xs => ∃ t I, GR h t (oneOf xs) I ∧ I.Nodup ∧ clean t = true ∧ Q t
@[simp ↓] theorem finG_ret {res : List RV} {Q : AV → Prop} {s : Env} {h : Heap} {n : Nat} : finG res Q .ret s h n = onO (resAs s h res) fun xs => ∃ t I, GR h t (oneOf xs) I ∧ I.Nodup ∧ clean t = true ∧ Q t := propext Iff.rfl
@[simp ↓] theorem finG_normal {res : List RV} {Q : AV → Prop} {s : Env} {h : Heap} {n : Nat} : finG res Q .normal s h n = onO (resAs s h res) fun xs => ∃ t I, GR h t (oneOf xs) I ∧ I.Nodup ∧ clean t = true ∧ Q t := propext Iff.rfl
theorem holds_of_runG {P : Program} {f : FuncId} {fn : Func} {af : AFn} {as : List AV} {Q : AV → Prop} {bx : Bool} (hf : P.funcs[f]? = some fn) (hc : compFnX bx P fn = some af) (hn : (fn.name == "runtime.NumGoroutine") = false) (hl : as.length ≤ af.nt)
    (hr : rC P af.body [] (argsE as) noHeap 0 (finG af.res Q)) : Holds P f as Q := by
  refine holds_of_acallG (acall_of_body hf hc hn ⟨hl, ?_⟩)
  unfold rC at hr
  have : (fun e s h n => kont P [] e s h n (finG af.res Q)) = fun e s h n => match e with
      | .exit _ => False
      | _ => onO (resAs s h af.res) fun xs => ∃ t I, GR h t (oneOf xs) I ∧ I.Nodup ∧ clean t = true ∧ Q t := by
    funext e s h n; cases e <;> rfl
  rw [this] at hr
  exact hr
end Go.Proofs.Ytoejpoioleffpaa
