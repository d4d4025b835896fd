/- New rows, appends, calls. -/
import Derived.Test.YtlefdibgonpoaaaR15
import Derived.Laws.BytesArg
namespace Go.Proofs.Ytlefdibgonpoaaa
open Go Go.RowKit

section
variable {P : Program} {base : Nat} {w0 w : World} {L : Nat → Option Loc} {N : Nat} {F : Nat → List Nat} {E : List Nat} {h : Heap} {s : Nat → AV} {a : Act} {K : AV → Heap → Nat → Prop}

theorem HRel.drew (H : HRel base w0 w L N F E h) : HRel base w0 w.drew L N F E h ∧ Ext w L N w.drew L N := by
  have e : Ext w L N w.drew L N := ⟨Nat.le_refl _, fun _ _ _ h => h, Nat.le_refl _, fun _ _ ho => ⟨rfl, ho⟩⟩
  exact ⟨⟨H.below.drew, H.bsz, H.dom, H.mod, H.lt, H.inj, H.lo, fun id B l h1 h2 => (H.blk id B l h1 h2).ext e fun _ _ _ _ => rfl, H.fp, H.ep, H.nd, H.ne, H.dj, H.de⟩, e⟩

/-- New rows, whose elements' memory E is theirs from now on. -/
theorem HRel.newRows (H : HRel base w0 w L N F E h) {rows : List (List AV)} {sz cap : Nat} {vals rest : List Value} {t : TypeId} (hv : VRr w L 0 rows vals E) (h1 : one vals) (hpos : 0 < sz)
    (hsz : ∀ r ∈ rows, r.length = sz) (hlim : rows.length ≤ LIM) (hcap : rows.length ≤ cap) (hmax : cap ≤ maxLen) (hlen : (vals ++ rest).length = cap * sz) :
    ∃ L' F', HRel base w0 (w.alloc (.cells (vals ++ rest).toArray t)) L' (N + 1) F' [] (upd h N (some ⟨false, sz, rows⟩)) ∧
      VR (w.alloc (.cells (vals ++ rest).toArray t)) L' (N + 1) (.ref N 0 rows.length) (.slice (some ⟨w.heap.size, 0, Option.none⟩) rows.length cap) [] ∧ Ext w L N (w.alloc (.cells (vals ++ rest).toArray t)) L' (N + 1) := by
  obtain ⟨g1, g2⟩ := H.chg (w' := w.alloc (.cells (vals ++ rest).toArray t)) (N' := N + 1) (E' := []) N N ⟨false, sz, rows⟩ (.at w.heap.size sz cap) E (by omega) (by omega) (.inl rfl) (fun hlt => absurd hlt (Nat.lt_irrefl _))
    ((Below.refl base w).alloc H.bsz _) (fun b hb _ => heap_alloc_old w _ _ hb) (fun b sz' cap' he => by cases he; exact ⟨H.bsz, by simp, .inr (Nat.le_refl _)⟩)
    (fun L' e hL' => ⟨rfl, by simp, _, t, vals, rest, heap_alloc_new w _, by simp, by simpa using hlen, hpos, hmax, hcap, hlim, hsz, h1, by
      simp only [Bool.false_eq_true, if_false]; exact VRr_ext e.zero _ _ _ hv⟩) (by simpa using H.ne) (fun x hx => .inr (by simpa using hx))
  refine ⟨upd (upd L N Option.none) N (some (.at w.heap.size sz cap)), upd (upd F N []) N E, ?_, ?_, g2⟩
  · have : upd (upd h N Option.none) N (some ⟨false, sz, rows⟩) = upd h N (some ⟨false, sz, rows⟩) := by funext i; simp only [upd]; split <;> rfl
    rw [← this]; exact g1
  · simp only [VR]
    refine ⟨⟨by omega, rfl, ?_⟩, trivial⟩
    intro l hl
    rw [upd_same] at hl; cases hl
    exact ⟨hlim, some ⟨w.heap.size, 0, Option.none⟩, by simp, by simp, by omega⟩

theorem VRr_cellsOf : ∀ {as : List AV} {vs : List Value} {S : List Nat}, VRl w L N as vs S → (as.all fun a => (cellsOf a).all isCell) = true →
    VRr w L N (as.map cellsOf) (vs.map fun v => v.cells.toList).flatten S ∧ one (vs.map fun v => v.cells.toList).flatten
  | [], vs, S, hv, _ => by simp only [VRl] at hv; obtain ⟨rfl, rfl⟩ := hv; simp [VRr, one]
  | a :: as, vs, S, hv, hc => by
    simp only [VRl] at hv
    obtain ⟨v, vs', S1, S2, rfl, rfl, h1, h2⟩ := hv
    simp only [List.all_cons, Bool.and_eq_true] at hc
    obtain ⟨g1, g2⟩ := VRl_cellsOf h1 hc.1
    obtain ⟨k1, k2⟩ := VRr_cellsOf h2 hc.2
    refine ⟨?_, ?_⟩
    · simp only [List.map_cons, List.flatten_cons, VRr]
      exact ⟨_, _, S1, S2, rfl, rfl, g1, k1⟩
    · intro u hu
      simp only [List.map_cons, List.flatten_cons, List.mem_append] at hu
      rcases hu with hu | hu
      · exact g2 u hu
      · exact k2 u hu

theorem fill_seq (size : Nat) : ∀ (vs : List Value) (k : Nat) (cs : Array Value), (∀ v ∈ vs, v.cells.size = size) → (k + vs.length) * size ≤ cs.size →
    ∃ o, Instr.fill (fun i => some (i * size, size)) cs ((List.range' k vs.length).zip vs) = some o ∧ o.toList = cs.toList.take (k * size) ++ ((vs.map fun v => v.cells.toList).flatten ++ cs.toList.drop ((k + vs.length) * size))
  | [], k, cs, _, _ => ⟨cs, rfl, by simp⟩
  | v :: vs, k, cs, hsz, hle => by
    have hv := hsz v (by simp)
    simp only [List.length_cons] at hle
    have hmul : (k + (vs.length + 1)) * size = k * size + size + vs.length * size := by rw [Nat.add_mul, Nat.add_mul, Nat.one_mul]; omega
    have hmul2 : (k + 1 + vs.length) * size = k * size + size + vs.length * size := by rw [Nat.add_mul, Nat.add_mul, Nat.one_mul]
    have hfold := fold_set v.cells.toList (k * size) 0 cs (by simp [hv]; omega)
    have he : (v.cells.zipIdx.foldl (fun cs (c, j) => cs.setIfInBounds (k * size + j) c) cs).toList = cs.toList.take (k * size) ++ (v.cells.toList ++ cs.toList.drop (k * size + size)) := by
      rw [← Array.foldl_toList, Array.toList_zipIdx]
      simpa [hv] using hfold
    have hs2 : (v.cells.zipIdx.foldl (fun cs (c, j) => cs.setIfInBounds (k * size + j) c) cs).size = cs.size := by
      rw [← Array.length_toList, he]; simp only [List.length_append, List.length_take, List.length_drop, Array.length_toList, hv]; omega
    obtain ⟨o, h1, h2⟩ := fill_seq size vs (k + 1) (v.cells.zipIdx.foldl (fun cs (c, j) => cs.setIfInBounds (k * size + j) c) cs) (fun u hu => hsz u (by simp [hu])) (by rw [hs2, hmul2]; omega)
    refine ⟨o, ?_, ?_⟩
    · simp only [List.length_cons, List.range'_succ, List.zip_cons_cons, Instr.fill]
      rw [if_neg (by simp; constructor <;> omega)]
      exact h1
    · rw [h2, he]
      have hkl : (cs.toList.take (k * size)).length = k * size := by simp; omega
      have hcl : v.cells.toList.length = size := by simp [hv]
      have e1 : (cs.toList.take (k * size) ++ (v.cells.toList ++ cs.toList.drop (k * size + size))).take ((k + 1) * size) = cs.toList.take (k * size) ++ v.cells.toList := by
        rw [← List.append_assoc, List.take_append_of_le_length (by simp only [List.length_append, hkl, hcl, Nat.add_mul, Nat.one_mul]; omega)]
        rw [List.take_of_length_le (by simp only [List.length_append, hkl, hcl, Nat.add_mul, Nat.one_mul]; omega)]
      have e2 : (cs.toList.take (k * size) ++ (v.cells.toList ++ cs.toList.drop (k * size + size))).drop ((k + 1 + vs.length) * size) = cs.toList.drop ((k + (vs.length + 1)) * size) := by
        rw [← List.append_assoc, hmul, hmul2]
        have : k * size + size + vs.length * size = (cs.toList.take (k * size) ++ v.cells.toList).length + vs.length * size := by simp only [List.length_append, hkl, hcl]
        rw [this, List.drop_length_add_append, List.drop_drop]
        congr 1
      rw [e1, e2]; simp

theorem ok_bsl {t e : TypeId} {i : TypeInfo} {zv : Value} {parts : Array (Nat × Operand)} {ps : List Opd} (H : HRel base w0 w L N F [] h) (hs : SRel w L N s a.tmps)
    (ht : P.underlying t = some (.slice e)) (hi : P.info? e = some i) (hz : i.zero = some zv) (hpos : 0 < i.size) (hbig : parts.size * i.size ≤ 2 ^ 24) (hzs : zv.cells.size = i.size)
    (hidx : parts.toList.map (·.1) = List.range parts.size) (hp : parts.toList.mapM (fun p => compX P e p.2) = some ps)
    (hK : aop P s h N K (.bsl i.size ps)) : Gives P (do pure (.value (← Instr.buildSlice t parts.size (parts.map fun (j, x) => (j, a.eval x))))) w (Post base w0 w L N K) := by
  simp only [aop] at hK
  unfold onO at hK
  split at hK
  · rename_i q hq
    obtain ⟨hall, hK⟩ := hK
    obtain ⟨hlen, hget⟩ := mapM_zip _ _ _ hp
    have hvl : VRl w L N (ps.map (ev s)) (parts.toList.map fun p => a.eval p.2) [] := by
      clear hq hK hall hidx hbig
      generalize parts.toList = l at hp hlen hget
      clear hp
      induction l generalizing ps with
      | nil => cases ps with
        | nil => exact ⟨rfl, rfl⟩
        | cons => simp at hlen
      | cons p l ih => cases ps with
        | nil => simp at hlen
        | cons x ps =>
          simp only [List.map_cons]
          refine VRl_nil_cons.2 ⟨_, _, rfl, compX_sound (hget 0 p x rfl rfl) hs, ih (by simpa using hlen) fun j u v hu hv => hget (j + 1) u v (by simpa using hu) (by simpa using hv)⟩
    obtain ⟨L', F', S, g1, g2, g3⟩ := dtl_sound _ H hvl hq
    have hl2 := VRl_length g2
    have hqlen : q.1.length = parts.size := by rw [← hl2]; simp
    have hall1 : (q.1.all fun a => (cellsOf a).all isCell) = true := List.all_eq_true.2 fun x hx => by have := List.all_eq_true.1 hall x hx; simp only [Bool.and_eq_true] at this; exact this.2
    obtain ⟨k1, k2⟩ := VRr_cellsOf g2 hall1
    have hrow : ∀ r ∈ q.1.map cellsOf, r.length = i.size := by
      intro r hr
      obtain ⟨x, hx, rfl⟩ := List.mem_map.1 hr
      have := List.all_eq_true.1 hall x hx; simp only [Bool.and_eq_true, beq_iff_eq] at this; exact this.1
    have hcsz : ∀ v ∈ parts.toList.map (fun p => a.eval p.2), v.cells.size = i.size := by
      intro v hv
      obtain ⟨j, hj⟩ := List.mem_iff_getElem?.1 hv
      have hj' := (List.getElem?_eq_some_iff.1 hj).1
      have hjq : j < q.1.length := by rw [← hl2]; exact hj'
      have hx := List.getElem?_eq_getElem hjq
      obtain ⟨v', S', e1, e2, _⟩ := VRl_get g2 hx
      rw [hj] at e1; cases e1
      have hc := List.all_eq_true.1 hall1 _ (List.getElem_mem hjq)
      have := VRl_length (VRl_cellsOf e2 hc).1
      rw [Array.length_toList] at this
      rw [this]; exact hrow _ (List.mem_map.2 ⟨_, List.getElem_mem hjq, rfl⟩)
    have hcells0 : ((Array.range (parts.size * i.size)).map fun x => (if parts.size * i.size = 0 then #[] else zv.cells)[x % (if parts.size * i.size = 0 then #[] else zv.cells).size]!).size = parts.size * i.size := by simp
    obtain ⟨o, f1, f2⟩ := fill_seq i.size (parts.toList.map fun p => a.eval p.2) 0 ((Array.range (parts.size * i.size)).map fun x => (if parts.size * i.size = 0 then #[] else zv.cells)[x % (if parts.size * i.size = 0 then #[] else zv.cells).size]!)
      hcsz (by rw [hcells0]; simp)
    have hzip : (parts.map fun (j, x) => (j, a.eval x)).toList = (List.range' 0 (parts.toList.map fun p => a.eval p.2).length).zip (parts.toList.map fun p => a.eval p.2) := by
      rw [← List.range_eq_range', List.length_map, Array.length_toList, ← hidx]
      simp only [Array.toList_map]
      generalize parts.toList = l
      induction l with
      | nil => rfl
      | cons p l ih => simp [ih]
    have hol : o.toList = (List.map (fun v => v.cells.toList) (List.map (fun p => a.eval p.2) parts.toList)).flatten ++ [] := by
      rw [f2, List.drop_of_length_le (by rw [Array.length_toList, hcells0]; simp)]; simp
    have hfl : (List.map (fun v => v.cells.toList) (List.map (fun p => a.eval p.2) parts.toList)).flatten.length = parts.size * i.size := by
      rw [VRr_length hrow k1, List.length_map, hqlen]
    have hmaxl : parts.size ≤ 2 ^ 24 := Nat.le_trans (Nat.le_mul_of_pos_right _ hpos) hbig
    obtain ⟨L2, F2, m1, m2, m3⟩ := (by simpa using g1 : HRel base w0 w L' N F' S q.2).newRows (t := e) (rest := []) (sz := i.size) (cap := parts.size) k1 k2 hpos hrow (by rw [List.length_map, hqlen]; simp only [LIM]; omega) (by rw [List.length_map, hqlen]; exact Nat.le_refl _)
      (by simp only [maxLen]; omega) (by rw [List.append_nil, hfl])
    rw [← hol, Array.toArray_toList] at m1 m2 m3
    rw [List.length_map, hqlen] at m2
    have hps : ps.length = parts.size := by rw [hlen, Array.length_toList]
    rw [hps] at hK
    refine .of_value (v := .slice (some ⟨w.heap.size, 0, Option.none⟩) parts.size parts.size) (w' := w.alloc (.cells o e)) ?_ ⟨_, _, _, _, _, m1, g3.trans m3, m2, hK⟩
    have hnb : ¬ (parts.size * i.size > 2 ^ 24) := by omega
    have f1' := f1
    rw [← hzip] at f1'
    simp only [Instr.buildSlice, Sem.run_bind, run_underlying ht, Result.andThen_ok, run_sizeOf hi, if_neg hnb, Sem.run_pure, newRow]
    by_cases hh : parts.size * i.size = 0
    · simp only [hh, if_true] at f1' ⊢
      simp only [Sem.run_bind, Sem.run_pure, Result.andThen_ok, f1']
      simp
    · simp only [hh, if_false] at f1' ⊢
      simp only [Sem.run_bind, zeroValue, typeInfo, Sem.run_pure, Result.andThen_ok]
      simp only [Array.toList_map] at f1'
      simp [hi, hz]
      rw [f1']
      simp
  · exact hK.elim

end

end Go.Proofs.Ytlefdibgonpoaaa
