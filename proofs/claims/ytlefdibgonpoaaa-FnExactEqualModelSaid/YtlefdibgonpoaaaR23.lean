/- From data that can be read to abstract values. -/
import Derived.Test.YtlefdibgonpoaaaR22
import Derived.ProofKit
import Derived.Deep.Slices
import Derived.SizedLaws
namespace Go.Proofs.Ytlefdibgonpoaaa
open Go Go.RowKit

def contig (P : Program) : Nat → List Field → Bool
  | _, [] => true
  | off, f :: fl => Nat.beq f.offset off && contig P (off + P.cellsOf f.type) fl

def total (P : Program) : List Field → Nat
  | [] => 0
  | f :: fl => P.cellsOf f.type + total P fl

def plain (P : Program) : Nat → TypeId → Bool
  | 0, _ => false
  | f + 1, t => match P.underlying t with
    | some .bool => Nat.beq (P.cellsOf t) 1
    | some (.int _) => Nat.beq (P.cellsOf t) 1
    | some .string => Nat.beq (P.cellsOf t) 1
    | some (.slice e) => Nat.beq (P.cellsOf t) 1 && Nat.blt 0 (P.cellsOf e) && Nat.blt 0 (P.bytesOf e) && plain P f e
    | some (.struct fs) => contig P 0 fs.toList && Nat.beq (P.cellsOf t) (total P fs.toList) && fs.toList.all fun x => plain P f x.type
    | _ => false

def All2 {α β : Type} (R : α → β → Prop) : List α → List β → Prop
  | [], [] => True
  | a :: l, b :: m => R a b ∧ All2 R l m
  | _, _ => False

/-- The cells of a value that was read, by its type. -/
def Row (P : Program) : Nat → TypeId → List AV → Prop
  | 0, _, _ => False
  | f + 1, t, row => match P.underlying t with
    | some .bool => ∃ b, row = [.bool b]
    | some (.int k) => ∃ n, row = [.int k n] ∧ (Lit.int k n).wf = true
    | some .string => ∃ l : List UInt8, row = [.str l] ∧ l.length ≤ LIM
    | some (.slice e) => ∃ rows : List (List AV), row = [.sl (P.cellsOf e) rows] ∧ rows.length ≤ LIM ∧ ∀ r ∈ rows, Row P f e r
    | some (.struct fs) => ∃ parts : List (List AV), row = parts.flatten ∧ All2 (fun (x : Field) r => Row P f x.type r) fs.toList parts
    | _ => False

section
variable {P : Program} {W : World} {H : Type} {enc : TypeId × Value → H}

theorem one_cell {a : AV} {v : Value} {S : List Nat} (h : VR W Lo 0 a v S) (hc : isCell a = true) : v.oneCell' = true := by
  cases a <;> simp only [isCell, Bool.false_eq_true] at hc <;> simp only [VR] at h
  case int => rw [h.1]; rfl
  case bool => rw [h.1]; rfl
  case str => obtain ⟨⟨b, rfl, _⟩, _⟩ := h; rfl
  case nil => rw [h.1]; rfl
  case nilp => rw [h.1]; rfl
  case ptr => exact h.1.2.1
  case fptr => obtain ⟨⟨_, _, _, rfl, _⟩, _⟩ := h; rfl
  case ref => exact h.1.2.1
  case sl => obtain ⟨⟨_, _, _, rfl, _⟩, _⟩ := h; rfl
  case us => rcases h.2 with ⟨rfl, _⟩ | ⟨_, _, _, _, _, _, _, rfl, _⟩ <;> rfl
  case fn => obtain ⟨⟨_, _, rfl, _⟩, _⟩ := h; rfl

theorem one_cells : ∀ {as : List AV} {vs : List Value} {S : List Nat}, VRl W Lo 0 as vs S → as.all isCell = true → one vs
  | [], _, _, h, _ => by simp only [VRl] at h; rw [h.1]; intro v hv; cases hv
  | a :: as, _, _, h, hc => by
    simp only [VRl] at h
    obtain ⟨v, vs', S1, S2, rfl, rfl, h1, h2⟩ := h
    simp only [List.all_cons, Bool.and_eq_true] at hc
    intro u hu
    rcases List.mem_cons.1 hu with rfl | hu
    · exact one_cell h1 hc.1
    · exact one_cells h2 hc.2 u hu

theorem VRl_one {a : AV} {v : Value} (h : VR W Lo 0 a v []) : VRl W Lo 0 [a] [v] [] := VRl_nil_cons.2 ⟨v, [], rfl, h, rfl, rfl⟩

theorem cellsAt_append {b o : Nat} {xs ys : List Value} (h1 : cellsAt W b o xs) (h2 : cellsAt W b (o + xs.length) ys) : cellsAt W b o (xs ++ ys) := by
  intro j v hj
  by_cases hlt : j < xs.length
  · rw [List.getElem?_append_left hlt] at hj; exact h1 j v hj
  · rw [List.getElem?_append_right (by omega)] at hj
    have := h2 (j - xs.length) v hj
    rw [show o + xs.length + (j - xs.length) = o + j by omega] at this
    exact this

theorem mapM_getE {α β : Type} {f : α → Option β} {l : List α} {m : List β} (h : l.mapM f = some m) {i : Nat} {b : β} (hb : m[i]? = some b) : ∃ a, l[i]? = some a ∧ f a = some b := by
  obtain ⟨h1, h2⟩ := mapM_get h
  have hi : i < l.length := by rw [← h1]; exact (List.getElem?_eq_some_iff.1 hb).1
  obtain ⟨b', h3, h4⟩ := h2 i l[i] (List.getElem?_eq_getElem hi)
  rw [hb] at h3; cases h3
  exact ⟨_, List.getElem?_eq_getElem hi, h4⟩

theorem cells?_at {a : Addr} {n : Nat} {cs : List Value} (h : W.cells? 0 a n = some cs) : cs.length = n ∧ cellsAt W a.block a.off cs ∧ (0 < n → a.spot = Option.none ∧ a.block < W.heap.size) := by
  unfold World.cells? at h
  rw [if_pos (Nat.zero_le _)] at h
  have hl := (mapM_get h).1
  simp only [List.length_range] at hl
  have key : ∀ i, i < n → ∃ v, cs[i]? = some v ∧ W.cell? (a.add i) = some v := fun i hi => by
    have hb : cs[i]? = some cs[i] := List.getElem?_eq_getElem (by omega)
    obtain ⟨i', h1, h2⟩ := mapM_getE h hb
    rw [List.getElem?_range hi] at h1
    cases h1
    exact ⟨_, hb, h2⟩
  have spot : 0 < n → a.spot = Option.none ∧ a.block < W.heap.size := fun h0 => by
    obtain ⟨v, _, h2⟩ := key 0 h0
    unfold World.cell? at h2
    have : a.add 0 = a := by simp [Addr.add]
    rw [this] at h2
    split at h2
    · rename_i hh
      split at h2
      · cases h2
      · rename_i hs
        exact ⟨by cases hsp : a.spot; rfl; simp [hsp] at hs, lt_of_heap hh⟩
    · cases h2
  refine ⟨hl, fun j v hj => ?_, spot⟩
  have hjn : j < n := by rw [← hl]; exact (List.getElem?_eq_some_iff.1 hj).1
  obtain ⟨v', h1, h2⟩ := key j hjn
  rw [hj] at h1; cases h1
  have hsp := (spot (by omega)).1
  have : a.add j = ⟨a.block, a.off + j, Option.none⟩ := by
    unfold Addr.add
    split
    · rename_i e; subst e; cases a; simp at hsp; subst hsp; simp
    · simp
  rw [this] at h2; exact h2

theorem weights_elem {e : TypeId} {d : DataW H} : ∀ {l : List (DataW H)}, d ∈ l → ∀ n ∈ d.weights P e, n ∈ DataW.weightsAll P e l
  | x :: l, h, n, hn => by
    simp only [DataW.weightsAll, List.mem_append]
    rcases List.mem_cons.1 h with rfl | h
    · exact .inl hn
    · exact .inr (weights_elem h n hn)

/-- The rows of a slice that was read. -/
theorem rows_of {e : TypeId} {R : List AV → Prop} {a : Addr} {len : Nat} (hsz : 0 < P.cellsOf e)
    (hx : ∀ i, i < len → ∃ cs row, W.cells? 0 (a.add (i * P.cellsOf e)) (P.cellsOf e) = some cs ∧ VRl W Lo 0 row cs [] ∧ R row ∧ row.all isCell = true ∧ row.length = P.cellsOf e) :
    ∀ k, k ≤ len → ∃ (rows : List (List AV)) (vals : List Value), rows.length = k ∧ VRr W Lo 0 rows vals [] ∧ vals.length = k * P.cellsOf e ∧ cellsAt W a.block a.off vals ∧ one vals ∧ (∀ r ∈ rows, R r ∧ r.length = P.cellsOf e) ∧ (0 < k → a.spot = Option.none ∧ a.block < W.heap.size)
  | 0, _ => ⟨[], [], rfl, ⟨rfl, rfl⟩, by simp, (fun j v h => by simp at h), (fun v h => by cases h), (fun r h => by cases h), fun h => absurd h (Nat.lt_irrefl _)⟩
  | k + 1, hk => by
    obtain ⟨rows, vals, h1, h2, h3, h4, h5, h6, h7⟩ := rows_of hsz hx k (by omega)
    obtain ⟨cs, row, g1, g2, g3, g4, g5⟩ := hx k (by omega)
    obtain ⟨q1, q2, q3⟩ := cells?_at g1
    have hsp := q3 hsz
    have hadd : a.add (k * P.cellsOf e) = ⟨a.block, a.off + k * P.cellsOf e, a.spot⟩ ∨ (k * P.cellsOf e = 0 ∧ a.add (k * P.cellsOf e) = a) ∨ a.add (k * P.cellsOf e) = ⟨a.block, a.off + k * P.cellsOf e, Option.none⟩ := by
      unfold Addr.add; split
      · rename_i e0; exact .inr (.inl ⟨e0, rfl⟩)
      · exact .inr (.inr rfl)
    have hblk : (a.add (k * P.cellsOf e)).block = a.block ∧ (a.add (k * P.cellsOf e)).off = a.off + k * P.cellsOf e := by
      rcases hadd with h | ⟨h0, h⟩ | h
      · rw [h]; exact ⟨rfl, rfl⟩
      · rw [h, h0]; exact ⟨rfl, rfl⟩
      · rw [h]; exact ⟨rfl, rfl⟩
    refine ⟨rows ++ [row], vals ++ cs, by simp [h1], ?_, by rw [List.length_append, h3, q1, Nat.succ_mul], cellsAt_append h4 ?_, ?_, ?_, fun _ => ?_⟩
    · rw [VRr_iff] at h2 ⊢
      rw [List.flatten_append, VRl_nil_append]
      exact ⟨vals, cs, rfl, h2, by simpa using g2⟩
    · rw [h3, ← hblk.1, ← hblk.2]; exact q2
    · intro v hv
      rcases List.mem_append.1 hv with hv | hv
      · exact h5 v hv
      · exact one_cells g2 g4 v hv
    · intro r hr
      rcases List.mem_append.1 hr with hr | hr
      · exact h6 r hr
      · simp at hr; subst hr; exact ⟨g3, g5⟩
    · by_cases hk0 : k = 0
      · subst hk0
        have : a.add (0 * P.cellsOf e) = a := by simp [Addr.add]
        rw [this] at hsp; exact hsp
      · exact h7 (by omega)

/-- The parts of a struct that was read. -/
theorem parts_of {f : Nat} (ih : ∀ t, plain P f t = true → ∀ fuel cs d ps, DataW.trod enc P W 0 (fun _ => true) true fuel t cs = some (d, ps) → (∀ n ∈ d.weights P t, n ≤ reachBytes) →
      ∃ row, VRl W Lo 0 row cs [] ∧ Row P f t row ∧ row.all isCell = true ∧ row.length = P.cellsOf t) {cs : List Value} {n : Nat} :
    ∀ (fl : List Field) (xs : List (DataW H × List MemPlace)) (off : Nat), contig P off fl = true → (fl.all fun x => plain P f x.type) = true → off + total P fl = cs.length → xs.length = fl.length →
      (∀ (i : Nat) (x : Field), fl[i]? = some x → DataW.trod enc P W 0 (fun _ => true) true n x.type ((cs.drop x.offset).take (P.cellsOf x.type)) = xs[i]?) →
      (∀ k ∈ DataW.weightsEach P (fl.map (·.type)) (xs.map (·.1)), k ≤ reachBytes) →
      ∃ parts : List (List AV), VRl W Lo 0 parts.flatten (cs.drop off) [] ∧ All2 (fun (x : Field) r => Row P f x.type r) fl parts ∧ parts.flatten.all isCell = true ∧ parts.flatten.length = total P fl
  | [], xs, off, _, _, hl, hx, _, _ => by
    refine ⟨[], ?_, trivial, rfl, rfl⟩
    simp only [total] at hl
    rw [List.drop_eq_nil_of_le (by omega)]
    exact ⟨rfl, rfl⟩
  | x :: fl, [], _, _, _, _, hx, _, _ => by simp at hx
  | x :: fl, y :: xs, off, hc, hp, hl, hx, hf, hw => by
    simp only [contig, Bool.and_eq_true, Nat.beq_eq, List.all_cons, total] at hc hp hl
    obtain ⟨ho, hc⟩ := hc
    have h0 := hf 0 x rfl
    simp only [List.getElem?_cons_zero] at h0
    simp only [List.map_cons, DataW.weightsEach, List.mem_append] at hw
    obtain ⟨row, r1, r2, r3, r4⟩ := ih x.type hp.1 n _ y.1 y.2 h0 (fun k hk => hw k (.inl hk))
    obtain ⟨parts, p1, p2, p3, p4⟩ := parts_of ih fl xs (off + P.cellsOf x.type) hc hp.2 (by rw [← hl]; omega) (by simpa using hx) (fun i z hz => by simpa using hf (i + 1) z (by simpa using hz)) (fun k hk => hw k (.inr hk))
    refine ⟨row :: parts, ?_, ⟨r2, p2⟩, by simp [List.all_append, r3, p3], by simp [r4, p4, total]⟩
    rw [List.flatten_cons, VRl_nil_append]
    rw [ho] at r1
    refine ⟨_, _, ?_, r1, p1⟩
    rw [← List.drop_drop, List.take_append_drop]

theorem row_of_trod (P : Program) (W : World) : ∀ (f : Nat) (t : TypeId), plain P f t = true → ∀ (fuel : Nat) (cs : List Value) (d : DataW H) (ps : List MemPlace), DataW.trod enc P W 0 (fun _ => true) true fuel t cs = some (d, ps) → (∀ n ∈ d.weights P t, n ≤ reachBytes) →
    ∃ row, VRl W Lo 0 row cs [] ∧ Row P f t row ∧ row.all isCell = true ∧ row.length = P.cellsOf t
  | 0, t, hp => by simp [plain] at hp
  | f + 1, t, hp => by
    intro fuel cs d ps h hw
    unfold plain at hp
    split at hp
    · rename_i hu
      simp only [Nat.beq_eq] at hp
      cases fuel with
      | zero => simp [DataW.trod] at h
      | succ fuel =>
        unfold DataW.trod at h
        rw [hu] at h
        split at h <;> simp_all
        rename_i b
        exact ⟨[.bool b], VRl_one (by simp [VR]), by simp [Row, hu], by simp, by simp⟩
    · rename_i k hu
      simp only [Nat.beq_eq] at hp
      cases fuel with
      | zero => simp [DataW.trod] at h
      | succ fuel =>
        unfold DataW.trod at h
        rw [hu] at h
        split at h <;> simp_all
        rename_i k' n hk
        subst hk
        exact ⟨[.int k n], VRl_one (by simp [VR]), by simpa [Row, hu] using h.1.2, by simp, by simp⟩
    · rename_i hu
      simp only [Nat.beq_eq] at hp
      cases fuel with
      | zero => simp [DataW.trod] at h
      | succ fuel =>
        unfold DataW.trod at h
        rw [hu] at h
        split at h <;> simp_all
        rename_i s
        obtain ⟨_, hd, _⟩ := h
        subst hd
        have hl : s.data.toList.length ≤ LIM := by
          have := hw s.data.toList.length (by simp [DataW.weights])
          unfold reachBytes at this; unfold LIM; omega
        exact ⟨[.str s.data.toList], VRl_one (by simp only [VR]; exact ⟨⟨s, rfl, rfl, hl⟩, trivial⟩), by simpa [Row, hu] using hl, by simp, by simp⟩
    · rename_i e hu
      simp only [Bool.and_eq_true, Nat.beq_eq, Nat.blt_eq] at hp
      obtain ⟨⟨⟨hc, hsz⟩, hby⟩, hpe⟩ := hp
      rcases DataW.trod_slice hu h with ⟨rfl, hx⟩ | ⟨a, len, cap, elems, rest, n, _, rfl, hx, _, hlc, _, hlen, hel, _⟩
      · refine ⟨[.sl (P.cellsOf e) []], ?_, by simp [Row, hu], by simp [isCell], by simp [hc]⟩
        exact VRl_one (by simp only [VR]; exact ⟨⟨Option.none, 0, [], rfl, ⟨Nat.zero_le _, Nat.le_refl _⟩, ⟨rfl, rfl⟩, .inl trivial⟩, trivial⟩)
      · obtain ⟨hd, -⟩ := Prod.mk.inj hx
        subst hd
        have hwt := fun n hn => hw n (by simp only [DataW.weights, hu]; exact hn)
        have hbig := hwt _ List.mem_cons_self
        obtain ⟨rows, vals, h1, h2, h3, h4, h5, h6, h7⟩ := rows_of (P := P) (W := W) (e := e) (R := Row P f e) (a := a) (len := len) hsz (fun i hi => by
          have hb := hel i hi
          have hi' : i < elems.length := by omega
          rw [List.getElem?_eq_getElem hi'] at hb
          obtain ⟨cs, g1, g2⟩ := Option.bind_eq_some_iff.1 hb
          obtain ⟨row, r1, r2, r3, r4⟩ := row_of_trod P W f e hpe n cs elems[i].1 elems[i].2 g2 (fun k hk => hwt k (List.mem_cons_of_mem _ (List.mem_append_left _ (weights_elem (List.mem_map.2 ⟨elems[i], List.getElem_mem hi', rfl⟩) k hk))))
          exact ⟨cs, row, g1, r1, r2, r3, r4⟩) len (Nat.le_refl _)
        have hlim : rows.length ≤ LIM := by
          rw [h1]
          have h8 : (elems.map (·.1)).length = len := by simp [hlen]
          have : len * 1 ≤ (elems.map (·.1)).length * P.bytesOf e := by rw [h8]; exact Nat.mul_le_mul_left _ hby
          have h9 : (elems.map (·.1)).length * P.bytesOf e ≤ ((elems.map (·.1)).length + (rest.map (·.1)).length) * P.bytesOf e := Nat.mul_le_mul_right _ (Nat.le_add_right _ _)
          unfold reachBytes at hbig; unfold LIM; omega
        refine ⟨[.sl (P.cellsOf e) rows], ?_, ?_, by simp [isCell], by simp [hc]⟩
        · refine VRl_nil_cons.2 ⟨_, [], rfl, ?_, ⟨rfl, rfl⟩⟩
          simp only [VR]
          refine ⟨⟨some a, cap, vals, by rw [h1], ⟨hlim, by rw [h1]; exact hlc⟩, h2, ?_⟩, trivial⟩
          by_cases h0 : len = 0
          · exact .inl (List.eq_nil_of_length_eq_zero (by omega))
          · obtain ⟨hs, hb⟩ := h7 (by omega)
            refine .inr ⟨a.block, a.off, by cases a; simp at hs; subst hs; rfl, not_own_Lo _, hb, fun r hr => (h6 r hr).2, h4, h5⟩
        · simp only [Row, hu]
          exact ⟨rows, rfl, hlim, fun r hr => (h6 r hr).1⟩
    · rename_i fs hu
      simp only [Bool.and_eq_true, Nat.beq_eq] at hp
      obtain ⟨⟨hc, ht⟩, hpf⟩ := hp
      obtain ⟨xs, n, _, hx, hlen, hxl, hf⟩ := DataW.trod_struct hu h
      obtain ⟨hd, -⟩ := Prod.mk.inj hx
      subst hd
      obtain ⟨parts, p1, p2, p3, p4⟩ := parts_of (P := P) (W := W) (enc := enc) (fun t ht' => row_of_trod P W f t ht') (cs := cs) (n := n) fs.toList xs 0 hc hpf (by omega) (by simp [hxl]) (fun i x hi => hf i x (by simpa using hi)) (fun k hk => hw k (by simp only [DataW.weights, hu]; exact hk))
      exact ⟨parts.flatten, by simpa using p1, by simp only [Row, hu]; exact ⟨parts, rfl, p2⟩, p3, by rw [p4, ht]⟩
    · cases hp

end
end Go.Proofs.Ytlefdibgonpoaaa
