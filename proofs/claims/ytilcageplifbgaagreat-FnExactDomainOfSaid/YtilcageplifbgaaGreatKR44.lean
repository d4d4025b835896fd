/- Functions of the library that turn a slice of strings in place. -/
import Derived.Test.YtilcageplifbgaaGreatKR31
import Derived.Sort.Grow
import Derived.Sort.EncStr
namespace Go.Proofs.YtilcageplifbgaaGreat
set_option linter.all false
open Go Go.RowKit
def rowOfS (w : World) (q b : Nat) (l : List Str) (os : Array Obj) : World := Go.Sort.grow (Go.Sort.putRow encStr (Go.Sort.ahead w q) b 0 l.toArray) os
theorem VRr_strs {w : World} {L : Nat → Option Loc} {N : Nat} : ∀ {l : List Str} {vs : List Value} {S : List Nat}, VRr w L N (strsR l) vs S → vs = l.map encStr ∧ S = [] ∧ ∀ s ∈ l, s.length ≤ LIM
  | [], vs, S, h => by simp [strsR, VRr] at h; simp [h]
  | s :: l, vs, S, h => by
    simp only [strsR, List.map_cons, VRr, VRl, VR] at h
    obtain ⟨v1, v2, S1, S2, rfl, rfl, ⟨v, vs', T1, T2, rfl, rfl, ⟨⟨b, rfl, hb, hl⟩, rfl⟩, rfl, rfl⟩, h2⟩ := h
    obtain ⟨rfl, rfl, h3⟩ := VRr_strs (l := l) h2
    refine ⟨?_, rfl, ?_⟩
    · simp only [List.map_cons, List.cons_append, List.nil_append]
      congr 1
      show Value.string b = Value.string ⟨s.toArray⟩
      rw [← hb]
    · intro x hx
      rcases List.mem_cons.1 hx with rfl | hx
      · exact hl
      · exact h3 x hx
theorem VRr_strs_mk {w : World} {L : Nat → Option Loc} {N : Nat} : ∀ {l : List Str}, (∀ s ∈ l, s.length ≤ LIM) → VRr w L N (strsR l) (l.map encStr) []
  | [], _ => by simp [strsR, VRr]
  | s :: l, h => by
    simp only [strsR, List.map_cons, VRr, VRl, VR]
    exact ⟨[encStr s], l.map encStr, [], [], rfl, rfl, ⟨_, [], [], [], rfl, rfl, ⟨⟨⟨s.toArray⟩, rfl, by simp, h s (by simp)⟩, rfl⟩, rfl, rfl⟩, VRr_strs_mk (l := l) fun x hx => h x (by simp [hx])⟩
section
variable {base : Nat} {w0 w : World} {L : Nat → Option Loc} {N : Nat} {F : Nat → List Nat} {h : Heap}
theorem onCells_block {w : World} {b k : Nat} {f : Array Value → Array Value} (hk : k ≠ b) : (Go.Sort.mapBlock w b f).heap[k]? = w.heap[k]? := by
  unfold Go.Sort.mapBlock
  simp only [Array.getElem?_modify]
  rw [if_neg (fun e => hk e.symm)]
theorem onCells_same {w : World} {b : Nat} {f : Array Value → Array Value} {cur : Array Value} {t : TypeId} {fr : Nat × Nat} (hb : w.heap[b]? = some (.cells cur t fr)) : (Go.Sort.mapBlock w b f).heap[b]? = some (.cells (f cur) t fr) := by
  unfold Go.Sort.mapBlock
  simp only [Array.getElem?_modify, if_true, hb, Option.map_some]
  rfl
theorem HRel.strs (H : HRel base w0 w L N F [] h) {id b sz cap : Nat} {l : List Str} (hB : h id = some ⟨false, 1, strsR l⟩) (hl : L id = some (.at b sz cap)) :
    sz = 1 ∧ ∃ cur t rest, w.heap[b]? = some (.cells cur t (0, 0)) ∧ cur.toList = l.map encStr ++ rest ∧ cur.size = cap ∧ cap ≤ maxLen ∧ l.length ≤ cap ∧ l.length ≤ LIM ∧ (∀ s ∈ l, s.length ≤ LIM) ∧ F id = [] ∧
      Go.Sort.Holds encStr w b 0 l.toArray ∧ b < w.heap.size := by
  obtain ⟨hsz, _, cur, t, vals, rest, g1, g2, g3, g4, g5, g6, g7, g8, g9, g10⟩ := (H.blk id _ _ hB hl).cells ((H.blk id _ _ hB hl).pos rfl)
  simp only at hsz g6 g7 g10
  subst hsz
  have hlen : (strsR l).length = l.length := by simp
  rw [hlen] at g6 g7
  obtain ⟨rfl, hF, hs⟩ := VRr_strs g10
  refine ⟨rfl, cur, t, rest, g1, g2, by omega, g5, g6, g7, hs, hF, ?_, lt_of_heap g1⟩
  intro j hj
  simp only [List.size_toArray] at hj
  constructor
  · rw [cell_of_row w b _ cur t (0, 0) g1, ← Array.getElem?_toList, g2, Nat.zero_add, List.getElem?_append_left (by simpa using hj), List.getElem?_map, List.getElem?_eq_getElem hj]
    simp [hj]
  · unfold World.frozen?
    simp [g1]
theorem HRel.inplace (H : HRel base w0 w L N F [] h) {id b cap q : Nat} {l l2 : List Str} {os : Array Obj} (hB : h id = some ⟨false, 1, strsR l⟩) (hl : L id = some (.at b 1 cap)) (hlen : l2.length = l.length) (hmem : ∀ s ∈ l2, s ∈ l ∨ s = []) :
    ∃ L' F', HRel base w0 (rowOfS w q b l2 os) L' N F' [] (upd h id (some ⟨false, 1, strsR l2⟩)) ∧ Ext w L N (rowOfS w q b l2 os) L' N ∧ L' id = some (.at b 1 cap) := by
  obtain ⟨_, cur, t, rest, g1, g2, g3, g5, g6, g7, hs, hF, hH, hbs⟩ := H.strs hB hl
  have hlo := H.lo b ⟨id, 1, cap, hl⟩
  have hsz : (rowOfS w q b l2 os).heap.size = w.heap.size + os.size := by
    unfold rowOfS
    rw [Go.Sort.size_grow]
    simp [Go.Sort.putRow, Go.Sort.mapBlock, Go.Sort.ahead]
  have hother : ∀ k, k < w.heap.size → k ≠ b → (rowOfS w q b l2 os).heap[k]? = w.heap[k]? := fun k hk hkb => by
    unfold rowOfS
    rw [Go.Sort.heap_grow_old _ _ (by simp [Go.Sort.putRow, Go.Sort.mapBlock, Go.Sort.ahead]; exact hk)]
    unfold Go.Sort.putRow
    rw [onCells_block hkb]; rfl
  have hthis : (rowOfS w q b l2 os).heap[b]? = some (.cells (Go.Sort.putCells encStr 0 l2.toArray cur) t (0, 0)) := by
    unfold rowOfS
    rw [Go.Sort.heap_grow_old _ _ (by simp [Go.Sort.putRow, Go.Sort.mapBlock, Go.Sort.ahead]; exact hbs)]
    unfold Go.Sort.putRow
    exact onCells_same (w := Go.Sort.ahead w q) g1
  have hcells : (Go.Sort.putCells encStr 0 l2.toArray cur).toList = l2.map encStr ++ rest := by
    apply List.ext_getElem?
    intro k
    rw [Array.getElem?_toList]
    simp only [Go.Sort.putCells, Array.getElem?_mapIdx, Nat.zero_le, true_and, Nat.zero_add, List.size_toArray, Nat.sub_zero]
    rw [← Array.getElem?_toList, g2]
    by_cases hk : k < l2.length
    · rw [List.getElem?_append_left (by simpa using (by omega : k < l.length)), List.getElem?_append_left (by simpa using hk)]
      rw [List.getElem?_eq_getElem (by simp; omega), List.getElem?_eq_getElem (by simpa using hk)]
      simp [hk]
    · rw [List.getElem?_append_right (by simp; omega), List.getElem?_append_right (by simp; omega)]
      simp only [List.length_map, hlen]
      cases rest[k - l.length]? with
      | none => rfl
      | some v => simp [hk]; exact fun h => absurd h (by omega)
  have hpc : (Go.Sort.putCells encStr 0 l2.toArray cur).size = cap * 1 := by simp [Go.Sort.putCells]; omega
  have hone : one (l2.map encStr) := by
    intro v hv
    obtain ⟨s, _, rfl⟩ := List.mem_map.1 hv
    rfl
  have hvr : ∀ L' : Nat → Option Loc, VRr (rowOfS w q b l2 os) L' (if (false : Bool) = true then N else 0) (strsR l2) (l2.map encStr) [] := fun L' => VRr_strs_mk fun s hs2 => by
    rcases hmem s hs2 with h1 | rfl
    · exact hs s h1
    · simp
  have hbelow : Below base w (rowOfS w q b l2 os) := ⟨rfl, rfl, rfl, by omega, fun k hk => hother k (Nat.lt_of_lt_of_le hk H.bsz) (by omega)⟩
  obtain ⟨m1, m2⟩ := H.chg (w' := rowOfS w q b l2 os) (N' := N) (E' := []) id id ⟨false, 1, strsR l2⟩ (.at b 1 cap) [] (Nat.le_refl _) (H.lt id _ hl) (.inl rfl) (fun _ => hl) hbelow
    (fun k hk hne => hother k hk fun e => hne 1 cap (e ▸ hl)) (fun b' sz' cap' he => by cases he; exact ⟨hlo, by omega, .inl ⟨1, cap, hl⟩⟩)
    (fun L' e hL' => BRel.of ⟨rfl, fun hh => (by cases hh), _, t, l2.map encStr, rest, hthis, hcells, hpc, Nat.one_pos, g5, by simp; omega, by simp; omega, by simp [strsR], hone, hvr L'⟩) (by simp) (by simp)
  have hu : upd (upd h id Option.none) id (some ⟨false, 1, strsR l2⟩) = upd h id (some (⟨false, 1, strsR l2⟩ : Blk)) := by funext i; simp only [upd]; split <;> rfl
  rw [hu] at m1
  exact ⟨_, _, m1, m2, upd_same _ _ _⟩
theorem acall_inplace {P : Program} {f : FuncId} {n id : Nat} {l l2 : List Str} {K : AV → Heap → Nat → Prop} {r : AV} (hc : callable P f = true) (hB : h id = some ⟨false, 1, strsR l⟩) (hlen : l2.length = l.length) (hmem : ∀ s ∈ l2, s ∈ l ∨ s = [])
    (hr : (r = .tup [] ∧ ∀ (a : Option Addr) (b cap : Nat), True) ∨ ∃ m, m ≤ l.length ∧ r = .ref id 0 m)
    (hsome : ∀ (b cap : Nat) (w : World), Go.Sort.Holds encStr w b 0 l.toArray → b < w.heap.size → l.length ≤ cap → l.length ≤ LIM → Calls P f #[.slice (some ⟨b, 0, Option.none⟩) l.length cap] w fun e w' =>
      (∃ v, e = .returned v ∧ (r = .tup [] → v = .tuple #[]) ∧ (∀ m, r = .ref id 0 m → v = .slice (some ⟨b, 0, Option.none⟩) m cap)) ∧ ∃ q os, w' = rowOfS w q b l2 os)
    (hnone : l = [] → ∀ w : World, Calls P f #[.slice Option.none 0 0] w fun e w' => (∃ v, e = .returned v ∧ (r = .tup [] → v = .tuple #[]) ∧ (∀ m, r = .ref id 0 m → v = .slice Option.none 0 0)) ∧ w' = w)
    (hK : K r (upd h id (some ⟨false, 1, strsR l2⟩)) n) : ACall P f [.ref id 0 l.length] h n K := by
  refine ⟨hc, fun base w0 w L F vs H hv => ?_⟩
  obtain ⟨v, vs', rfl, h1, rfl, _⟩ := VRl_nil_cons.1 hv
  have h1' := h1
  simp only [VR] at h1
  cases hl : L id with
  | none => rw [H.mod id hl] at hB; cases hB
  | some loc =>
    have hra := h1.1.2.2 loc hl
    cases loc with
    | none =>
      obtain ⟨_, _, hl0, rfl⟩ := hra
      have hl0' : l = [] := List.eq_nil_of_length_eq_zero hl0
      have hl2' : l2 = [] := List.eq_nil_of_length_eq_zero (by omega)
      have hh : upd h id (some (⟨false, 1, strsR l2⟩ : Blk)) = h := by
        funext i
        simp only [upd]
        split
        · rename_i hi; subst hi; rw [hB, hl0', hl2']
        · rfl
      rw [hh] at hK
      subst hl0'
      refine (hnone rfl w).mono ?_
      rintro e w' ⟨⟨v, rfl, q1, q2⟩, rfl⟩
      refine ⟨v, r, L, n, F, h, rfl, H, Ext.refl _ _ _, ?_, hK⟩
      rcases hr with ⟨rfl, _⟩ | ⟨m, hm, rfl⟩
      · rw [q1 rfl]; simp [VR, VRl]
      · have hm0 : m = 0 := by simpa using hm
        subst hm0
        rw [q2 0 rfl]
        simpa only [List.length_nil] using h1'
    | «at» b sz cap =>
      obtain ⟨hlim, A, rfl, hA, hcap⟩ := hra
      obtain ⟨rfl, cur, t, rest, g1, g2, g3, g5, g6, g7, hs, hF, hH, hbs⟩ := H.strs hB hl
      have hA' := hA (.inr rfl)
      rw [Nat.zero_mul] at hA'
      subst hA'
      simp only [Nat.zero_add] at hcap
      refine (hsome b (cap - 0) w hH hbs (by omega) hlim).mono ?_
      rintro e w' ⟨⟨v, rfl, q1, q2⟩, q, os, rfl⟩
      obtain ⟨L', F', m1, m2, m3⟩ := H.inplace (q := q) (os := os) hB hl hlen hmem
      refine ⟨v, r, L', n, F', _, rfl, m1, m2, ?_, hK⟩
      rcases hr with ⟨rfl, _⟩ | ⟨m, hm, rfl⟩
      · rw [q1 rfl]; simp [VR, VRl]
      · rw [q2 m rfl]
        simp only [VR]
        refine ⟨⟨h1.1.1, rfl, ?_⟩, trivial⟩
        intro l' hl'
        rw [m3] at hl'; cases hl'
        exact ⟨by omega, _, rfl, by simp, by omega⟩
end
end Go.Proofs.YtilcageplifbgaaGreat
