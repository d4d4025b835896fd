/- What a call made is kept where it flows into the result, and forgotten elsewhere: for calls that turn their caller's boxes. -/
import Derived.Test.YtoejpoioleffpaaR46
namespace Go.Proofs.Ytoejpoioleffpaa
set_option linter.all false
open Go Go.RowKit

/-- Which id a result's block had, and the ids of the boxes below it. -/
abbrev PI := Option Nat × List Nat

def PBlk (h : Heap) (r : Nat × List (List AV)) (p : PI) : Prop :=
  match p.1 with
  | Option.none => r.2 = [] ∧ p.2 = []
  | some id => (h id = some ⟨false, r.1, r.2⟩ ∧ p.2 = []) ∨ ∃ rows', h id = some ⟨true, r.1, rows'⟩ ∧ GRr h r.2 rows' p.2

def pflat (p : PI) : List Nat := p.1.toList ++ p.2

mutual
theorem col_clean : ∀ (t : AV), clean t = true → ∀ r ∈ col t, cleanr r.2 = true
  | .us sz rows, c, r, hr => by simp only [col, List.mem_singleton] at hr; subst hr; simpa only [clean] using c
  | .agg cs, c, r, hr => by simp only [col] at hr; simp only [clean] at c; exact coll_clean cs c r hr
  | .tup cs, c, r, hr => by simp only [col] at hr; simp only [clean] at c; exact coll_clean cs c r hr
  | .undef, _, r, hr | .int .., _, r, hr | .bool _, _, r, hr | .str _, _, r, hr | .nil _, _, r, hr | .nilp, _, r, hr | .ptr .., _, r, hr | .fptr .., _, r, hr | .ref .., _, r, hr | .sl .., _, r, hr | .fn .., _, r, hr | .mp _, _, r, hr => by simp [col] at hr
theorem coll_clean : ∀ (ts : List AV), cleanl ts = true → ∀ r ∈ coll ts, cleanr r.2 = true
  | [], _, r, hr => by simp [coll] at hr
  | t :: ts, c, r, hr => by
    simp only [cleanl, Bool.and_eq_true] at c
    simp only [coll, List.mem_append] at hr
    rcases hr with hr | hr
    · exact col_clean t c.1 r hr
    · exact coll_clean ts c.2 r hr
end

section
variable {h : Heap} {w : World} {L : Nat → Option Loc} {N : Nat}
def PackL (L : Nat → Option Loc) (J : List PI) (L' : Nat → Option Loc) (n : Nat) : Prop :=
  ∀ j p, J[j]? = some p → ∀ l, L' (n + j) = some l → (∀ i, p.1 = some i → L i = some l) ∧ (p.1 = Option.none → l = .none)
def PackJ (h : Heap) (L : Nat → Option Loc) (R : List (Nat × List (List AV))) (J : List PI) (I : List Nat) : Prop :=
  J.length = R.length ∧ (J.map pflat).flatten = I ∧ ∀ (j : Nat) r p, R[j]? = some r → J[j]? = some p → PBlk h r p ∧ ∀ i b sz cap, p.1 = some i → L i = some (.at b sz cap) → 0 < sz
theorem PackJ.append {R R' : List (Nat × List (List AV))} {J J' : List PI} {I I' : List Nat} (x : PackJ h L R J I) (y : PackJ h L R' J' I') : PackJ h L (R ++ R') (J ++ J') (I ++ I') := by
  obtain ⟨x1, x2, x3⟩ := x
  obtain ⟨y1, y2, y3⟩ := y
  refine ⟨by simp [x1, y1], by simp [x2, y2], fun j r p h1 h2 => ?_⟩
  by_cases hj : j < R.length
  · rw [List.getElem?_append_left hj] at h1
    rw [List.getElem?_append_left (by omega)] at h2
    exact x3 j r p h1 h2
  · rw [List.getElem?_append_right (by omega)] at h1
    rw [List.getElem?_append_right (by omega), x1] at h2
    exact y3 _ r p h1 h2
mutual
theorem GR_pack : ∀ (t : AV) {a : AV} {I : List Nat} {v : Value}, GR h t a I → VR w L N a v [] →
    ∃ J, PackJ h L (col t) J I ∧ ∀ (L' : Nat → Option Loc) (n N' : Nat), n + (col t).length ≤ N' → PackL L J L' n → VR w L' N' (sub t n) v []
  | .undef, _, _, _, ht, _ | .nil _, _, _, _, ht, _ | .ptr .., _, _, _, ht, _ | .fptr .., _, _, _, ht, _ | .ref .., _, _, _, ht, _ | .sl .., _, _, _, ht, _ | .fn .., _, _, _, ht, _ | .mp _, _, _, _, ht, _ => by simp only [GR] at ht
  | .int .., a, I, v, ht, hv => by
    simp only [GR] at ht; obtain ⟨rfl, rfl⟩ := ht
    exact ⟨[], ⟨rfl, rfl, by simp [col]⟩, fun _ _ _ _ _ => by simpa only [VR, sub] using hv⟩
  | .bool _, a, I, v, ht, hv => by
    simp only [GR] at ht; obtain ⟨rfl, rfl⟩ := ht
    exact ⟨[], ⟨rfl, rfl, by simp [col]⟩, fun _ _ _ _ _ => by simpa only [VR, sub] using hv⟩
  | .str _, a, I, v, ht, hv => by
    simp only [GR] at ht; obtain ⟨rfl, rfl⟩ := ht
    exact ⟨[], ⟨rfl, rfl, by simp [col]⟩, fun _ _ _ _ _ => by simpa only [VR, sub] using hv⟩
  | .nilp, a, I, v, ht, hv => by
    simp only [GR] at ht; obtain ⟨rfl, rfl⟩ := ht
    exact ⟨[], ⟨rfl, rfl, by simp [col]⟩, fun _ _ _ _ _ => by simpa only [VR, sub] using hv⟩
  | .agg cs, a, I, v, ht, hv => by
    simp only [GR] at ht; obtain ⟨cs', rfl, ht⟩ := ht
    simp only [VR] at hv
    obtain ⟨vs, rfl, hv⟩ := hv
    obtain ⟨J, g1, g2⟩ := GRl_pack cs ht hv
    exact ⟨J, by simpa only [col] using g1, fun L' n N' hn hp => by simp only [sub, VR]; exact ⟨vs, rfl, g2 L' n N' (by simpa only [col] using hn) hp⟩⟩
  | .tup cs, a, I, v, ht, hv => by
    simp only [GR] at ht; obtain ⟨cs', rfl, ht⟩ := ht
    simp only [VR] at hv
    obtain ⟨vs, rfl, hv⟩ := hv
    obtain ⟨J, g1, g2⟩ := GRl_pack cs ht hv
    exact ⟨J, by simpa only [col] using g1, fun L' n N' hn hp => by simp only [sub, VR]; exact ⟨vs, rfl, g2 L' n N' (by simpa only [col] using hn) hp⟩⟩
  | .us sz rows, a, I, v, ht, hv => by
    simp only [GR] at ht
    rcases ht with ⟨rfl, rfl, rfl⟩ | ⟨id, I', rfl, rfl, hB⟩
    · simp only [VR] at hv
      obtain ⟨rfl, _⟩ := hv
      refine ⟨[(Option.none, [])], ⟨rfl, rfl, ?_⟩, ?_⟩
      · intro j r p h1 h2
        cases j with
        | zero =>
          simp only [col, List.getElem?_cons_zero, Option.some.injEq] at h1 h2
          subst h1 h2
          exact ⟨⟨rfl, rfl⟩, fun i b sz cap hi => by simp at hi⟩
        | succ j => simp [col] at h1
      · intro L' n N' hn hp
        simp only [col, List.length_singleton] at hn
        simp only [sub, VR]
        refine ⟨⟨by omega, rfl, fun l hl => ?_⟩, trivial⟩
        have := (hp 0 _ rfl l (by simpa using hl)).2 rfl
        subst this
        exact ⟨Nat.zero_le _, rfl, rfl, rfl⟩
    · simp only [VR] at hv
      refine ⟨[(some id, I')], ⟨rfl, by simp [pflat], ?_⟩, ?_⟩
      · intro j r p h1 h2
        cases j with
        | zero =>
          simp only [col, List.getElem?_cons_zero, Option.some.injEq] at h1 h2
          subst h1 h2
          refine ⟨hB, fun i b sz' cap hi hl => ?_⟩
          simp only [Option.some.injEq] at hi
          subst hi
          obtain ⟨_, A, _, _, hcap⟩ := hv.1.2.2 _ hl
          exact hcap.2
        | succ j => simp [col] at h1
      · intro L' n N' hn hp
        simp only [col, List.length_singleton] at hn
        simp only [sub, VR]
        refine ⟨⟨by omega, hv.1.2.1, fun l hl => ?_⟩, trivial⟩
        exact hv.1.2.2 l ((hp 0 _ rfl l (by simpa using hl)).1 id rfl)
theorem GRl_pack : ∀ (ts : List AV) {as : List AV} {I : List Nat} {vs : List Value}, GRl h ts as I → VRl w L N as vs [] →
    ∃ J, PackJ h L (coll ts) J I ∧ ∀ (L' : Nat → Option Loc) (n N' : Nat), n + (coll ts).length ≤ N' → PackL L J L' n → VRl w L' N' (subl ts n) vs []
  | [], as, I, vs, ht, hv => by
    simp only [GRl] at ht; obtain ⟨rfl, rfl⟩ := ht
    simp only [VRl] at hv
    exact ⟨[], ⟨rfl, rfl, by simp [coll]⟩, fun _ _ _ _ _ => by simp only [subl, VRl]; exact ⟨hv.1, trivial⟩⟩
  | t :: ts, as, I, vs, ht, hv => by
    simp only [GRl] at ht; obtain ⟨a, as', I1, I2, rfl, rfl, h1, h2⟩ := ht
    obtain ⟨v, vs', rfl, g1, g2⟩ := VRl_nil_cons.1 hv
    obtain ⟨J1, k1, q1⟩ := GR_pack t h1 g1
    obtain ⟨J2, k2, q2⟩ := GRl_pack ts h2 g2
    refine ⟨J1 ++ J2, by simpa only [coll] using k1.append k2, fun L' n N' hn hp => ?_⟩
    simp only [coll, List.length_append] at hn
    simp only [subl]
    refine VRl_nil_cons.2 ⟨v, vs', rfl, q1 L' n N' (by omega) ?_, q2 L' _ N' (by omega) ?_⟩
    · intro j p hj
      exact hp j p (by rw [List.getElem?_append_left (List.getElem?_eq_some_iff.1 hj).1]; exact hj)
    · intro j p hj l hl
      refine hp (J1.length + j) p (by rw [List.getElem?_append_right (by omega), Nat.add_sub_cancel_left]; exact hj) l ?_
      rw [k1.1, ← Nat.add_assoc]; exact hl
end
end

section
variable {base : Nat} {w0 w : World} {L : Nat → Option Loc} {N : Nat} {F : Nat → List Nat} {E : List Nat} {h : Heap}
def PData (w : World) (L : Nat → Option Loc) (F : Nat → List Nat) (r : Nat × List (List AV)) (p : PI) (x : Loc × List Nat) : Prop :=
  (∀ i, p.1 = some i → L i = some x.1) ∧ (p.1 = Option.none → x.1 = .none) ∧ BRel w Lo 0 ⟨false, r.1, r.2⟩ x.1 x.2 ∧ x.2.Nodup ∧ cleanr r.2 = true ∧
    ∀ b ∈ x.2, BSrc L F (pflat p) b ∧ b < w.heap.size ∧ ∀ i sz cap, p.1 = some i → L i ≠ some (.at b sz cap)
theorem pblk_data (H : HRel base w0 w L N F E h) {r : Nat × List (List AV)} {p : PI} (hP : PBlk h r p) (hp : ∀ i b sz cap, p.1 = some i → L i = some (.at b sz cap) → 0 < sz) (hc : cleanr r.2 = true) (hd : (pflat p).Nodup) : ∃ x, PData w L F r p x := by
  obtain ⟨o, I'⟩ := p
  cases o with
  | none =>
    obtain ⟨h1, h2⟩ := hP
    exact ⟨(.none, []), by simp, by simp, ⟨h1, rfl⟩, List.nodup_nil, hc, by simp⟩
  | some id =>
    rcases hP with ⟨hB, hI⟩ | ⟨rows', hB, hR⟩
    · cases hl : L id with
      | none => rw [H.mod id hl] at hB; cases hB
      | some l =>
        have hbr := H.blk id _ l hB hl
        refine ⟨(l, F id), by simpa using hl, by simp, ?_, H.nd id, hc, fun b hb => ⟨⟨id, by simp [pflat], .inr hb⟩, (H.fp id b hb).2.2, fun i sz cap hi hl' => (H.fp id b hb).1 ⟨i, sz, cap, hl'⟩⟩⟩
        cases l with
        | none => exact hbr
        | «at» b sz cap =>
          obtain ⟨h0, _, cur, t, vals, rest, h1, h2, h3, h4, h5, h6, h7, h8, h9, h10⟩ := hbr.cells (hbr.pos rfl)
          exact BRel.of ⟨h0, by simp, cur, t, vals, rest, h1, h2, h3, h4, h5, h6, h7, h8, h9, VRr_env _ _ _ hc (fun b hb => not_own_Lo b) h10⟩
    · cases hl : L id with
      | none => rw [H.mod id hl] at hB; cases hB
      | some l =>
        have hbr := H.blk id _ l hB hl
        cases l with
        | none =>
          have h0 : rows' = [] := hbr.1
          subst h0
          have h1 : r.2 = [] := List.eq_nil_of_length_eq_zero (GRr_length hR).symm
          exact ⟨(.none, []), by simpa using hl, by simp, ⟨h1, rfl⟩, List.nodup_nil, hc, by simp⟩
        | «at» b sz cap =>
          obtain ⟨h0, hF, cur, t, vals, rest, h1, h2, h3, h4, h5, h6, h7, h8, h9, h10⟩ := hbr.cells (hp id b sz cap rfl hl)
          simp only [if_true] at h10
          rw [hF rfl] at h10
          have hd' : id ∉ I' ∧ I'.Nodup := by simpa [pflat] using hd
          obtain ⟨S, g1, g2, g3⟩ := GRr_give H r.2 hc hd'.2 hR h10
          have hlen := GRr_length hR
          refine ⟨(.at b sz cap, S), by simpa using hl, by simp, BRel.of ⟨h0, by simp, cur, t, vals, rest, h1, h2, h3, h4, h5, by simpa [hlen] using h6, by simpa [hlen] using h7, ?_, h9, by simpa using g1⟩, g2, hc, ?_⟩
          · intro x hx
            obtain ⟨r', k1, k2⟩ := GRr_rows hR x hx
            rw [← k2]; exact h8 r' k1
          · intro x hx
            refine ⟨BSrc.right (I := [id]) (g3 x hx).1, (g3 x hx).2, fun i sz' cap' hi hl' => ?_⟩
            simp only [Option.some.injEq] at hi
            subst hi
            obtain ⟨j, q1, q2⟩ := src_meet H (I1 := [id]) (b := x) ⟨id, by simp, .inl ⟨_, _, hl'⟩⟩ (g3 x hx).1
            simp only [List.mem_singleton] at q1
            subst q1
            exact hd'.1 q2
theorem pick_list {α β γ : Type} {X : α → β → γ → Prop} : ∀ {R : List α} {J : List β}, J.length = R.length → (∀ (j : Nat) r p, R[j]? = some r → J[j]? = some p → ∃ x, X r p x) → ∃ ls : List γ, ls.length = R.length ∧ ∀ (j : Nat) r p x, R[j]? = some r → J[j]? = some p → ls[j]? = some x → X r p x
  | [], _, _, _ => ⟨[], rfl, by simp⟩
  | r :: R, [], hl, _ => by simp at hl
  | r :: R, p :: J, hl, hx => by
    obtain ⟨x, h1⟩ := hx 0 r p rfl rfl
    obtain ⟨ls, h2, h3⟩ := pick_list (R := R) (J := J) (by simpa using hl) fun j r' p' g1 g2 => hx (j + 1) r' p' (by simpa using g1) (by simpa using g2)
    refine ⟨x :: ls, by simp [h2], fun j r' p' x' g1 g2 g3 => ?_⟩
    cases j with
    | zero =>
      simp only [List.getElem?_cons_zero, Option.some.injEq] at g1 g2 g3
      subst g1 g2 g3; exact h1
    | succ j => exact h3 j r' p' x' (by simpa using g1) (by simpa using g2) (by simpa using g3)

theorem HRel.pack (H : HRel base w0 w L N F [] h) {n : Nat} {h1 : Heap} (hlow : ∀ id, id < n → h id = h1 id) (hhi : ∀ id, n ≤ id → h1 id = Option.none)
    (hbox : ∀ id B, id < n → h1 id = some B → B.box = true → ∀ r ∈ B.rows, idbl n r) {t a : AV} {I : List Nat} {v : Value} (hc : clean t = true) (hI : I.Nodup) (hn : ∀ i ∈ I, n ≤ i) (ht : GR h t a I) (hv : VR w L N a v []) :
    ∃ L' F', HRel base w0 w L' (n + (col t).length) F' [] (addAll h1 n (col t)) ∧ VR w L' (n + (col t).length) (sub t n) v [] ∧ (∀ id, id < n → L' id = L id) ∧ ∀ b, Own L' b → Own L b := by
  obtain ⟨J, ⟨hJl, hJI, hJ⟩, hsub⟩ := GR_pack t ht hv
  have hnd : (J.map pflat).flatten.Nodup := hJI ▸ hI
  have hpf : ∀ (j : Nat) p, J[j]? = some p → (pflat p).Nodup := fun j p hj => nodup_of_flatten hnd (i := j) (by rw [List.getElem?_map, hj]; rfl)
  have hpI : ∀ (j : Nat) p i, J[j]? = some p → i ∈ pflat p → n ≤ i := fun j p i hj hi => hn i (by rw [← hJI]; exact List.mem_flatten.2 ⟨pflat p, List.mem_map.2 ⟨p, List.mem_of_getElem? hj, rfl⟩, hi⟩)
  have hpe : ∀ (j j' : Nat) p p' i, J[j]? = some p → J[j']? = some p' → i ∈ pflat p → i ∈ pflat p' → j = j' := fun j j' p p' i hj hj' hi hi' =>
    nodup_flatten_get hnd j j' i (pflat p) (pflat p') (by rw [List.getElem?_map, hj]; rfl) (by rw [List.getElem?_map, hj']; rfl) hi hi'
  obtain ⟨ls, hls, hD⟩ := pick_list (X := PData w L F) hJl fun j r p h1 h2 => pblk_data H (hJ j r p h1 h2).1 (hJ j r p h1 h2).2 (col_clean t hc r (List.mem_of_getElem? h1)) (hpf j p h2)
  have hall : ∀ (j : Nat) x, ls[j]? = some x → ∃ r p, (col t)[j]? = some r ∧ J[j]? = some p ∧ PData w L F r p x := fun j x hx => by
    have hj : j < (col t).length := by have := (List.getElem?_eq_some_iff.1 hx).1; omega
    exact ⟨_, _, List.getElem?_eq_getElem hj, List.getElem?_eq_getElem (by omega), hD j _ _ x (List.getElem?_eq_getElem hj) (List.getElem?_eq_getElem (by omega)) hx⟩
  let L' : Nat → Option Loc := fun id => if id < n then L id else (ls[id - n]?).map (·.1)
  let F' : Nat → List Nat := fun id => if id < n then F id else match ls[id - n]? with | some x => x.2 | Option.none => []
  have Lold : ∀ id, id < n → L' id = L id := fun id hid => by show (if id < n then _ else _) = _; rw [if_pos hid]
  have Fold : ∀ id, id < n → F' id = F id := fun id hid => by show (if id < n then _ else _) = _; rw [if_pos hid]
  have Lnew : ∀ j, L' (n + j) = (ls[j]?).map (·.1) := fun j => by show (if n + j < n then _ else _) = _; rw [if_neg (by omega), Nat.add_sub_cancel_left]
  have Fnew : ∀ j x, ls[j]? = some x → F' (n + j) = x.2 := fun j x hx => by show (if n + j < n then _ else _) = _; rw [if_neg (by omega), Nat.add_sub_cancel_left, hx]
  -- where an id's place comes from
  have Lcase : ∀ id l, L' id = some l → (id < n ∧ L id = some l) ∨ ∃ j r p x, id = n + j ∧ ls[j]? = some x ∧ l = x.1 ∧ (col t)[j]? = some r ∧ J[j]? = some p ∧ PData w L F r p x := fun id l hl => by
    by_cases hid : id < n
    · rw [Lold id hid] at hl; exact .inl ⟨hid, hl⟩
    · obtain ⟨j, rfl⟩ : ∃ j, id = n + j := ⟨id - n, by omega⟩
      rw [Lnew j, Option.map_eq_some_iff] at hl
      obtain ⟨x, hx, rfl⟩ := hl
      obtain ⟨r, p, g1, g2, g3⟩ := hall j x hx
      exact .inr ⟨j, r, p, x, rfl, hx, rfl, g1, g2, g3⟩
  have Fcase : ∀ id b, b ∈ F' id → (id < n ∧ b ∈ F id) ∨ ∃ j r p x, id = n + j ∧ ls[j]? = some x ∧ b ∈ x.2 ∧ (col t)[j]? = some r ∧ J[j]? = some p ∧ PData w L F r p x := fun id b hb => by
    by_cases hid : id < n
    · rw [Fold id hid] at hb; exact .inl ⟨hid, hb⟩
    · obtain ⟨j, rfl⟩ : ∃ j, id = n + j := ⟨id - n, by omega⟩
      cases hx : ls[j]? with
      | none =>
        have : F' (n + j) = [] := by show (if n + j < n then _ else _) = _; rw [if_neg (by omega), Nat.add_sub_cancel_left, hx]
        rw [this] at hb; cases hb
      | some x =>
        rw [Fnew j x hx] at hb
        obtain ⟨r, p, g1, g2, g3⟩ := hall j x hx
        exact .inr ⟨j, r, p, x, rfl, hx, hb, g1, g2, g3⟩
  -- an owned block's source
  have Lsrc : ∀ id b sz cap, L' id = some (.at b sz cap) → (id < n ∧ L id = some (.at b sz cap)) ∨ ∃ j r p x i, id = n + j ∧ ls[j]? = some x ∧ J[j]? = some p ∧ (col t)[j]? = some r ∧ PData w L F r p x ∧ p.1 = some i ∧ L i = some (.at b sz cap) := fun id b sz cap hl => by
    rcases Lcase id _ hl with h' | ⟨j, r, p, x, rfl, hx, he, g1, g2, g3⟩
    · exact .inl h'
    · cases hp : p.1 with
      | none => have := g3.2.1 hp; rw [this] at he; cases he
      | some i => exact .inr ⟨j, r, p, x, i, rfl, hx, g2, g1, g3, hp, by rw [he]; exact g3.1 i hp⟩
  have ownL' : ∀ b, Own L' b → Own L b := by
    rintro b ⟨id, sz, cap, hid⟩
    rcases Lsrc id b sz cap hid with ⟨_, hl⟩ | ⟨j, r, p, x, i, _, _, _, _, _, _, hl⟩
    · exact ⟨id, sz, cap, hl⟩
    · exact ⟨i, sz, cap, hl⟩
  have topin : ∀ (p : PI) i, p.1 = some i → i ∈ pflat p := fun p i hp => by simp [pflat, hp]
  have fpnew : ∀ (j : Nat) r p x b, ls[j]? = some x → J[j]? = some p → PData w L F r p x → b ∈ x.2 → ¬ Own L' b := by
    rintro j r p x b hx hp hd hb ⟨id, sz, cap, hid⟩
    obtain ⟨k1, k2, k3⟩ := hd.2.2.2.2.2 b hb
    rcases Lsrc id b sz cap hid with ⟨hlt, hl⟩ | ⟨j', r', p', x', i, rfl, hx', hp', hr', hd', hi, hl⟩
    · obtain ⟨i, q1, q2⟩ := src_meet H (I1 := [id]) (b := b) ⟨id, by simp, .inl ⟨_, _, hl⟩⟩ k1
      simp only [List.mem_singleton] at q1
      subst q1
      have := hpI j p i hp q2
      omega
    · obtain ⟨i', q1, q2⟩ := src_meet H (I1 := [i]) (b := b) ⟨i, by simp, .inl ⟨_, _, hl⟩⟩ k1
      simp only [List.mem_singleton] at q1
      subst q1
      have := hpe j j' p p' i' hp hp' q2 (topin p' i' hi)
      subst this
      rw [hp] at hp'
      simp only [Option.some.injEq] at hp'
      subst hp'
      exact k3 i' sz cap hi hl
  refine ⟨L', F', ⟨H.below, H.bsz, ?_, ?_, ?_, ?_, fun b ho => H.lo b (ownL' b ho), ?_, ?_, by simp, ?_, List.nodup_nil, ?_, by simp⟩, hsub L' n _ (Nat.le_refl _) ?_, Lold, ownL'⟩
  · intro id hid
    rw [addAll_eq] at hid
    by_cases hlt : id < n
    · rw [if_neg (by omega), ← hlow id hlt] at hid
      rw [Lold id hlt]; exact H.dom id hid
    · obtain ⟨j, rfl⟩ : ∃ j, id = n + j := ⟨id - n, by omega⟩
      rw [if_pos (by omega), Nat.add_sub_cancel_left] at hid
      rw [Lnew j]
      cases hr : (col t)[j]? with
      | none =>
        have : ls[j]? = Option.none := by rw [List.getElem?_eq_none_iff] at hr ⊢; omega
        rw [this]; rfl
      | some r => rw [hr] at hid; cases hid
  · intro id hid
    rw [addAll_eq]
    by_cases hlt : id < n
    · rw [if_neg (by omega), ← hlow id hlt]
      rw [Lold id hlt] at hid; exact H.mod id hid
    · obtain ⟨j, rfl⟩ : ∃ j, id = n + j := ⟨id - n, by omega⟩
      rw [Lnew j, Option.map_eq_none_iff, List.getElem?_eq_none_iff] at hid
      rw [if_pos (by omega), Nat.add_sub_cancel_left]
      have : (col t)[j]? = Option.none := by rw [List.getElem?_eq_none_iff]; omega
      rw [this]; exact hhi _ (by omega)
  · intro id l hl
    rcases Lcase id l hl with ⟨h', _⟩ | ⟨j, r, p, x, rfl, hx, _, hr, _⟩
    · omega
    · have := (List.getElem?_eq_some_iff.1 hr).1; omega
  · intro id id' b sz cap sz' cap' e1 e2
    rcases Lsrc id b sz cap e1 with ⟨hlt, hl⟩ | ⟨j, r, p, x, i, rfl, hx, hp, hr, hd, hi, hl⟩
    · rcases Lsrc id' b sz' cap' e2 with ⟨hlt', hl'⟩ | ⟨j', r', p', x', i', rfl, hx', hp', hr', hd', hi', hl'⟩
      · exact H.inj id id' b _ _ _ _ hl hl'
      · have := H.inj id i' b _ _ _ _ hl hl'
        have := hpI j' p' i' hp' (topin p' i' hi')
        omega
    · rcases Lsrc id' b sz' cap' e2 with ⟨hlt', hl'⟩ | ⟨j', r', p', x', i', rfl, hx', hp', hr', hd', hi', hl'⟩
      · have := H.inj i id' b _ _ _ _ hl hl'
        have := hpI j p i hp (topin p i hi)
        omega
      · have hii := H.inj i i' b _ _ _ _ hl hl'
        subst hii
        rw [hpe j j' p p' i hp hp' (topin p i hi) (topin p' i hi')]
  · intro id B l hB hl
    rcases Lcase id l hl with ⟨hlt, hl⟩ | ⟨j, r, p, x, rfl, hx, rfl, hr, hp, hd⟩
    · rw [addAll_eq, if_neg (by omega)] at hB
      rw [Fold id hlt]
      have hbr := H.blk id B l (by rw [hlow id hlt]; exact hB) hl
      have e0 : Ext w L n w L' n := ⟨Nat.le_refl _, fun i l' hi hl' => by rw [Lold i hi] at hl'; exact hl', Nat.le_refl _, fun b _ ho => ⟨rfl, fun ho' => ho (ownL' b ho')⟩⟩
      cases l with
      | none => exact hbr
      | «at» b sz cap =>
        refine ⟨hbr.1, hbr.2.1, fun hp => ?_, fun hz0 => ?_⟩
        · obtain ⟨h0, h0', cur, t', vals, rest, k1, k2, k3, k4, k5, k6, k7, k8, k9, k10⟩ := hbr.cells hp
          refine ⟨cur, t', vals, rest, k1, k2, k3, k4, k5, k6, k7, k8, k9, ?_⟩
          cases hbx : B.box
          · rw [hbx] at k10
            simp only [Bool.false_eq_true, if_false] at k10 ⊢
            exact VRr_ext e0.zero _ _ _ k10
          · rw [hbx] at k10
            simp only [if_true] at k10 ⊢
            have hids : idbl n B.rows.flatten := by
              have hr := hbox id B hlt hB hbx
              clear hB hl hbr h0 h0' k6 k7 k8 k10 hbx
              generalize B.rows = rows at hr
              induction rows with
              | nil => simp [idbl]
              | cons r rs ih =>
                have h1 := hr r (by simp)
                have h2 := ih fun x hx => hr x (by simp [hx])
                have : ∀ (as bs : List AV), idbl n as → idbl n bs → idbl n (as ++ bs) := by
                  intro as bs ha hb
                  induction as with
                  | nil => exact hb
                  | cons a as ih => simp only [List.cons_append, idbl] at ha ⊢; exact ⟨ha.1, ih ha.2⟩
                simpa using this _ _ h1 h2
            have h11 := VRl_lower (n := n) _ _ _ (VRr_iff.1 k10) hids
            have e1 : Ext w L n w L' (n + (col t).length) := ⟨by omega, e0.old, e0.size, e0.block⟩
            exact VRr_iff.2 (VRl_ext e1 _ _ _ h11)
        · obtain ⟨hbx, es, clock, k1, k2⟩ := hbr.2.2.2 hz0
          have e1 : Ext w L n w L' (n + (col t).length) := ⟨by omega, e0.old, e0.size, e0.block⟩
          exact ⟨hbx, es, clock, k1, (k2.lower (hbox id B hlt hB hbx)).ext e1⟩
    · rw [addAll_eq, if_pos (by omega), Nat.add_sub_cancel_left, hr] at hB
      simp only [Option.some.injEq] at hB
      subst hB
      rw [Fnew j x hx]
      obtain ⟨l, f⟩ := x
      have hbr := hd.2.2.1
      cases l with
      | none => exact hbr
      | «at» b sz cap =>
        obtain ⟨h0, _, cur, t', vals, rest, k1, k2, k3, k4, k5, k6, k7, k8, k9, k10⟩ := hbr.cells (hbr.pos rfl)
        exact BRel.of ⟨h0, by simp, cur, t', vals, rest, k1, k2, k3, k4, k5, k6, k7, k8, k9, VRr_env _ _ _ hd.2.2.2.2.1 (fun b hb => fpnew j r p _ b hx hp hd hb) k10⟩
  · intro id b hb
    rcases Fcase id b hb with ⟨hlt, hb⟩ | ⟨j, r, p, x, rfl, hx, hb, hr, hp, hd⟩
    · obtain ⟨q1, q2⟩ := H.fp id b hb
      exact ⟨fun ho => q1 (ownL' b ho), q2⟩
    · obtain ⟨k1, k2, k3⟩ := hd.2.2.2.2.2 b hb
      exact ⟨fpnew j r p x b hx hp hd hb, (src_in H k1).1, k2⟩
  · intro id
    by_cases hlt : id < n
    · rw [Fold id hlt]; exact H.nd id
    · obtain ⟨j, rfl⟩ : ∃ j, id = n + j := ⟨id - n, by omega⟩
      cases hx : ls[j]? with
      | none =>
        have : F' (n + j) = [] := by show (if n + j < n then _ else _) = _; rw [if_neg (by omega), Nat.add_sub_cancel_left, hx]
        rw [this]; exact List.nodup_nil
      | some x =>
        rw [Fnew j x hx]
        obtain ⟨r, p, _, _, hd⟩ := hall j x hx
        exact hd.2.2.2.1
  · intro id id' b e1 e2
    have src : ∀ id, b ∈ F' id → (id < n ∧ BSrc L F [id] b) ∨ ∃ j p, id = n + j ∧ J[j]? = some p ∧ BSrc L F (pflat p) b := fun id hb => by
      rcases Fcase id b hb with ⟨hlt, hb⟩ | ⟨j, r, p, x, rfl, hx, hb, hr, hp, hd⟩
      · exact .inl ⟨hlt, ⟨id, by simp, .inr hb⟩⟩
      · exact .inr ⟨j, p, rfl, hp, (hd.2.2.2.2.2 b hb).1⟩
    rcases src id e1 with ⟨hlt, s1⟩ | ⟨j, p, rfl, hp, s1⟩ <;> rcases src id' e2 with ⟨hlt', s2⟩ | ⟨j', p', rfl, hp', s2⟩ <;> obtain ⟨i, q1, q2⟩ := src_meet H s1 s2
    · simp only [List.mem_singleton] at q1 q2; omega
    · simp only [List.mem_singleton] at q1; have := hpI j' p' i hp' q2; omega
    · simp only [List.mem_singleton] at q2; have := hpI j p i hp q1; omega
    · rw [hpe j j' p p' i hp hp' q1 q2]
  · intro j p hj l hl
    rw [Lnew j, Option.map_eq_some_iff] at hl
    obtain ⟨x, hx, rfl⟩ := hl
    obtain ⟨r, p', _, g2, g3⟩ := hall j x hx
    rw [hj] at g2
    simp only [Option.some.injEq] at g2
    subst g2
    exact ⟨g3.1, g3.2.1⟩
end

theorem idbl_flat {n : Nat} : ∀ {rows : List (List AV)}, idbl n rows.flatten → ∀ r ∈ rows, idbl n r := by
  have sp : ∀ (as bs : List AV), idbl n (as ++ bs) → idbl n as ∧ idbl n bs := by
    intro as bs hab
    induction as with
    | nil => exact ⟨by simp [idbl], hab⟩
    | cons a as ih => simp only [List.cons_append, idbl] at hab ⊢; exact ⟨⟨hab.1, (ih hab.2).1⟩, (ih hab.2).2⟩
  intro rows
  induction rows with
  | nil => intro _ r hr; cases hr
  | cons x xs ih =>
    intro hx r hr
    rw [List.flatten_cons] at hx
    rcases List.mem_cons.1 hr with rfl | hr
    · exact (sp _ _ hx).1
    · exact ih (sp _ _ hx).2 r hr
theorem HRel.boxids {base : Nat} {w0 w : World} {L : Nat → Option Loc} {n : Nat} {F : Nat → List Nat} {E : List Nat} {h : Heap} (H : HRel base w0 w L n F E h) {id : Nat} {B : Blk} (hB : h id = some B) (hbx : B.box = true) : ∀ r ∈ B.rows, idbl n r := by
  cases hl0 : L id with
  | none => rw [H.mod id hl0] at hB; cases hB
  | some l0 =>
    have hb0 := H.blk id B l0 hB hl0
    cases l0 with
    | none => rw [hb0.1]; intro r hr; cases hr
    | «at» b0 sz0 cap0 =>
      rcases Nat.eq_zero_or_pos sz0 with h0 | h0
      · obtain ⟨_, es0, clock0, _, q2⟩ := hb0.2.2.2 h0
        exact q2.idb
      · obtain ⟨_, _, _, _, vals, _, _, _, _, _, _, _, _, _, _, q10⟩ := hb0.cells h0
        rw [hbx] at q10
        simp only [if_true] at q10
        exact idbl_flat (VRl_idb _ _ _ (VRr_iff.1 q10))
theorem HRel.none_from {base : Nat} {w0 w : World} {L : Nat → Option Loc} {n : Nat} {F : Nat → List Nat} {E : List Nat} {h : Heap} (H : HRel base w0 w L n F E h) {id : Nat} (hid : n ≤ id) : h id = Option.none := by
  cases hx : h id with
  | none => rfl
  | some B =>
    cases hl : L id with
    | none => rw [H.mod id hl] at hx; cases hx
    | some l => have := H.lt id l hl; omega
theorem HRel.some_lt {base : Nat} {w0 w : World} {L : Nat → Option Loc} {n : Nat} {F : Nat → List Nat} {E : List Nat} {h : Heap} (H : HRel base w0 w L n F E h) {id : Nat} {B : Blk} (hid : h id = some B) : id < n := by
  rcases Nat.lt_or_ge id n with h1 | h1
  · exact h1
  · rw [H.none_from h1] at hid; cases hid
/-- What is known of every heap that a call meets. -/
theorem acall_dom {P : Program} {f : FuncId} {as : List AV} {h : Heap} {n : Nat} {K : AV → Heap → Nat → Prop} (hcl : callable P f = true) (hA : (∀ id, n ≤ id → h id = Option.none) → ACall P f as h n K) : ACall P f as h n K :=
  ⟨hcl, fun base w0 w L F vs H hv => (hA fun _ hid => H.none_from hid).2 base w0 w L F vs H hv⟩
/-- A call that may turn boxes of its caller's, and gives back a tree of its own: what else it made is forgotten. -/
theorem acall_pack {P : Program} {f : FuncId} {as : List AV} {h : Heap} {n : Nat} {K : AV → Heap → Nat → Prop} (hcl : callable P f = true)
    (hA : (∀ id, n ≤ id → h id = Option.none) → ACall P f as h n fun r h' _ => ∃ t I h1, GR h' t r I ∧ I.Nodup ∧ (∀ i ∈ I, n ≤ i) ∧ clean t = true ∧ (∀ id, id < n → h' id = h1 id) ∧ (∀ id, n ≤ id → h1 id = Option.none) ∧
      (∀ id, id < n → h1 id = h id ∨ ∃ B, h1 id = some B ∧ ∀ r ∈ B.rows, idbl n r) ∧ K (sub t n) (addAll h1 n (col t)) (n + (col t).length)) : ACall P f as h n K := by
  refine ⟨hcl, fun base w0 w L F vs H hv => ?_⟩
  refine ((hA fun _ hid => H.none_from hid).2 base w0 w L F vs H hv).mono ?_
  rintro e w' ⟨v, r, L', n', F', h', rfl, H', hext, hr, t, I, h1, g1, g2, g3, g4, g5, hhi, hbox, hk⟩
  have hb : ∀ id B, id < n → h1 id = some B → B.box = true → ∀ r ∈ B.rows, idbl n r := by
    intro id B hlt hB hbx
    rcases hbox id hlt with he | ⟨B', hB', hr⟩
    · rw [he] at hB; exact H.boxids hB hbx
    · rw [hB'] at hB
      simp only [Option.some.injEq] at hB
      subst hB
      exact hr
  obtain ⟨L2, F2, q1, q2, q3, q4⟩ := H'.pack (fun id hid => g5 id hid) hhi hb g4 g2 g3 g1 hr
  refine ⟨v, _, L2, _, F2, _, rfl, q1, ⟨by omega, fun id l hid hl => ?_, hext.size, fun b hlt ho => ⟨(hext.block b hlt ho).1, fun ho' => (hext.block b hlt ho).2 (q4 b ho')⟩⟩, q2, hk⟩
  rw [q3 id hid] at hl
  exact hext.old id l hid hl
end Go.Proofs.Ytoejpoioleffpaa
