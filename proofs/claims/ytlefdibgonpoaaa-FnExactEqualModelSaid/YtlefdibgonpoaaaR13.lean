/- Stores; the sources of appends. -/
import Derived.Test.YtlefdibgonpoaaaR12
namespace Go.Proofs.Ytlefdibgonpoaaa
open Go Go.RowKit

section
variable {P : Program} {base : Nat} {w0 w : World} {L : Nat → Option Loc} {N : Nat} {F : Nat → List Nat} {E : List Nat} {h : Heap} {s : Nat → AV} {a : Act} {K : AV → Heap → Nat → Prop}

theorem ok_st {t : TypeId} {x y : Operand} {x' y' : Opd} {i : TypeInfo} (H : HRel base w0 w L N F [] h) (hs : SRel w L N s a.tmps) (hx : ∃ t, compX P t x = some x') (hy : compX P t y = some y')
    (hi : P.info? t = some i) (hK : aop P s h N K (.st i.size x' y')) : Gives P (do Instr.storeAt t (a.eval x) (a.eval y); pure .skip) w (Post base w0 w L N K) := by
  obtain ⟨t', hx⟩ := hx
  have hv := compX_sound hx hs
  have hu := compX_sound hy hs
  simp only [aop] at hK
  obtain ⟨hlen, hcell, hK⟩ := hK
  obtain ⟨hcs, hone⟩ := VRl_cellsOf hu hcell
  have hcl := VRl_length hcs
  have run : ∀ b o w', a.eval x = .pointer (some ⟨b, o, Option.none⟩) → (storeCells ⟨b, o, Option.none⟩ (a.eval y).cells.toList).run P w = .ok () w' →
      (do Instr.storeAt t (a.eval x) (a.eval y); pure Next.skip : Sem Next).run P w = .ok .skip w' := fun b o w' he hr => by
    have hsz : (a.eval y).cells.size = i.size := by rw [← Array.length_toList, hcl, hlen]
    simp [Instr.storeAt, he, Instr.sureAddr, storeVar, sizeOf, typeInfo, hi, hsz, hr]
  split at hK
  · rename_i id r c hev
    rw [hev] at hv
    unfold onO at hK
    split at hK
    · rename_i B hB
      split at hK
      · rename_i hbox
        obtain ⟨hr, hc, hK⟩ := hK
        obtain ⟨b, o, w', F', e1, e2, e3, e4⟩ := H.store (P := P) hB hv hr (by rw [hlen]; exact hc) (by rw [hbox]; exact hcs) hone (fun _ => rfl) rfl
        rw [hbox] at e3
        exact .of_skip (run b o w' e1 e2) ⟨.tup [], L, N, F', _, e3, e4, by simp [VR, VRl, undef], hK⟩
      · rename_i hbox
        split at hK
        · rename_i q hq
          split at hK
          · rename_i B' hB'
            obtain ⟨hbox', hr, hc, hK⟩ := hK
            obtain ⟨cs', h'⟩ := q
            obtain ⟨L', F', S, g1, g2, g3⟩ := dtl_sound _ H hcs hq
            have hcl' := VRl_length g2
            obtain ⟨b, o, w', F'', e1, e2, e3, e4⟩ := g1.store (P := P) hB' (VR_ext g3 _ _ _ hv) hr (by rw [← hcl', hcl, hlen]; exact hc) (by rw [hbox']; exact g2) hone (fun hb => by rw [hbox'] at hb; cases hb) (by simp)
            rw [hbox'] at e3
            exact .of_skip (run b o w' e1 e2) ⟨.tup [], L', N, F'', _, e3, g3.trans e4, by simp [VR, VRl, undef], hK⟩
          · exact hK.elim
        · exact hK.elim
    · exact hK.elim
  · exact hK.elim

theorem drr_len (rs : List (List AV)) : (drr rs).length = rs.length := by rw [drr_eq]; simp

/-- The rows that are copied from a slice, and the heap that is left. -/
theorem srcRows_sound (H : HRel base w0 w L N F [] h) {y : AV} {v : Value} {sz : Nat} {rows : List (List AV)} {h' : Heap} (hv : VR w L N y v []) (hy : srcRows h y = some (sz, rows, h')) :
    ∃ F' S A c news, HRel base w0 w L N F' S h' ∧ v = .slice A rows.length c ∧ VRr w L 0 rows news S ∧ one news ∧ rows.length ≤ LIM ∧ (∀ r ∈ rows, r.length = sz) ∧
      (rows = [] ∨ ∃ b o, A = some ⟨b, o, Option.none⟩ ∧ cellsAt w b o news) := by
  unfold srcRows at hy
  split at hy
  · simp only [Option.some.injEq, Prod.mk.injEq] at hy
    obtain ⟨rfl, rfl, rfl⟩ := hy
    simp only [VR] at hv
    obtain ⟨⟨A, cap, vals, rfl, ⟨hlim, _⟩, hr, hb⟩, _⟩ := hv
    rcases hb with rfl | ⟨b, o, rfl, ho, hb, hsz, hc, hone⟩
    · exact ⟨F, [], A, cap, [], H, rfl, ⟨rfl, rfl⟩, by simp [one], hlim, by simp, .inl rfl⟩
    · exact ⟨F, [], _, cap, vals, H, rfl, hr, hone, hlim, hsz, .inr ⟨b, o, rfl, hc⟩⟩
  · simp only [Option.some.injEq, Prod.mk.injEq] at hy
    obtain ⟨rfl, rfl, rfl⟩ := hy
    simp only [VR] at hv
    exact ⟨F, [], Option.none, 0, [], H, hv.1, ⟨rfl, rfl⟩, by simp [one], Nat.zero_le _, by simp, .inl rfl⟩
  · rename_i id off len
    split at hy
    · rename_i B hB
      split at hy
      · rename_i hc
        simp only [Option.some.injEq, Prod.mk.injEq] at hy
        obtain ⟨rfl, rfl, rfl⟩ := hy
        obtain ⟨hbox, hle⟩ := hc
        simp only [VR] at hv
        cases hl : L id with
        | none => rw [H.mod id hl] at hB; cases hB
        | some l =>
          have hid := H.lt id l hl
          have hp := hv.1.2.2 l hl
          have hbr := H.blk id B l hB hl
          have hlenT : ((B.rows.drop off).take len).length = len := by simp; omega
          have hLe : upd (upd L id Option.none) id (some l) = L := by
            funext j; simp only [upd]; split
            · rename_i hj; rw [hj, hl]
            · rfl
          have hhe : ∀ X : Option Blk, upd (upd h id Option.none) id X = upd h id X := fun X => by funext j; simp only [upd]; split <;> rfl
          cases l with
          | none =>
            obtain ⟨hrows, hF⟩ := hbr
            obtain ⟨_, rfl, rfl, rfl⟩ := hp
            obtain ⟨m1, m2⟩ := H.chg (w' := w) (N' := N) (E' := []) id id ⟨false, B.sz, drr B.rows⟩ .none [] (Nat.le_refl _) hid (.inl rfl) (fun _ => hl) (Below.refl _ _) (fun _ _ _ => rfl) (fun _ _ _ he => by cases he)
              (fun L' e hL' => ⟨by simp [hrows, drr], rfl⟩) (by simp) (by simp)
            rw [hLe, hhe] at m1
            refine ⟨_, [], Option.none, 0, [], m1, by simp [hrows], by simp [hrows, VRr], by simp [one], by simp [hrows], by simp [hrows], .inl (by simp [hrows])⟩
          | «at» b sz cap =>
            obtain ⟨rfl, h0, cur, t, vals, rest, g1, g2, g3, g4, g5, g6, g7, g8, g9, g10⟩ := hbr
            obtain ⟨hlim, A, rfl, hA, hcap⟩ := hp
            have h10 := g10
            simp only [hbox, if_false, Bool.false_eq_true] at h10
            obtain ⟨m1, m2⟩ := H.chg (w' := w) (N' := N) (E' := F id) id id ⟨false, B.sz, drr B.rows⟩ (.at b B.sz cap) [] (Nat.le_refl _) hid (.inl rfl) (fun _ => hl) (Below.refl _ _) (fun _ _ _ => rfl)
              (fun b' sz' cap' he => by cases he; exact ⟨H.lo b ⟨id, _, _, hl⟩, lt_of_heap g1, .inl ⟨_, _, hl⟩⟩)
              (fun L' e hL' => ⟨rfl, fun _ => rfl, cur, t, vals, rest, g1, g2, g3, g4, g5, by rw [drr_len]; exact g6, by rw [drr_len]; exact g7, by
                  intro r hr
                  rw [drr_eq] at hr
                  obtain ⟨r', hr', rfl⟩ := List.mem_map.1 hr
                  rw [drl_eq, List.length_map]; exact g8 r' hr', g9, by
                  simp only [Bool.false_eq_true, if_false]
                  exact VRr_ext e.zero _ _ _ (VRr_dr _ _ _ h10)⟩) (by simpa using H.nd id) (by simp)
            rw [hLe, hhe] at m1
            obtain ⟨v1, v2, S1, S2, rfl, hS, k1, k2⟩ := VRr_take off h10
            obtain ⟨v3, v4, S3, S4, rfl, hS', k3, k4⟩ := VRr_take len k2
            have hv1 : v1.length = off * B.sz := by
              rw [VRr_length (fun r hr => g8 r (List.mem_of_mem_take hr)) k1, List.length_take, Nat.min_eq_left (by omega)]
            have hFS : F id = S1 ++ (S3 ++ S4) := by rw [hS, hS']
            have m3 : HRel base w0 w L N (upd (upd F id []) id []) S3 (upd h id (some ⟨false, B.sz, drr B.rows⟩)) :=
              ⟨m1.below, m1.bsz, m1.dom, m1.mod, m1.lt, m1.inj, m1.lo, m1.blk, m1.fp, fun b' hb' => m1.ep b' (by rw [hFS]; simp [hb']), m1.nd, by
                have := m1.ne; rw [hFS] at this; exact (List.nodup_append.1 (List.nodup_append.1 this).2.1).1, m1.dj, fun j b' hb' hx => m1.de j b' hb' (by rw [hFS]; simp [hx])⟩
            refine ⟨_, S3, A, _, v3, m3, by rw [hlenT], k3, fun v hv => g9 v (by simp [hv]), by rw [hlenT]; exact hlim, fun r hr => g8 r (List.mem_of_mem_drop (List.mem_of_mem_take hr)), ?_⟩
            by_cases h00 : len = 0
            · left; rw [h00, List.take_zero]
            · right
              refine ⟨b, off * B.sz, hA (.inl (by omega)), ?_⟩
              rw [← hv1]
              exact cells_of_row (pre := v1) (vals := v3) (rest := v4 ++ rest) g1 (by rw [g2]; simp)
      · cases hy
    · cases hy
  · cases hy
end

end Go.Proofs.Ytlefdibgonpoaaa
