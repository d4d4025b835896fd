/- Operations that read memory, or make a variable. -/
import Derived.Test.YtlefdibgonpoaaaR8
namespace Go.Proofs.Ytlefdibgonpoaaa
open Go Go.RowKit

def aggB (P : Program) (t : TypeId) : Option Bool :=
  match P.underlying t with
  | some (.struct _) | some (.array ..) => some true
  | some _ => some false
  | Option.none => Option.none

section
variable {P : Program} {base : Nat} {w0 w : World} {L : Nat → Option Loc} {N : Nat} {F : Nat → List Nat} {h : Heap} {s : Nat → AV} {a : Act} {K : AV → Heap → Nat → Prop}

theorem run_isAgg {t : TypeId} {b : Bool} (hb : aggB P t = some b) (w : World) : (isAgg t).run P w = .ok b w := by
  unfold aggB at hb
  split at hb <;> first | cases hb | skip
  · simp [isAgg, run_underlying (by assumption)]
  · simp [isAgg, run_underlying (by assumption)]
  · rename_i d h1 h2 hd
    simp only [isAgg, Sem.run_bind, run_underlying hd, Result.andThen_ok]
    first | rfl | (split <;> first | exact absurd rfl (h1 _) | exact absurd rfl (h2 _ _) | rfl)

theorem run_sizeOf {t : TypeId} {i : TypeInfo} (hi : P.info? t = some i) (w : World) : (sizeOf t).run P w = .ok i.size w := by simp [sizeOf, typeInfo, hi]

theorem addr_add (b o j : Nat) : (⟨b, o, Option.none⟩ : Addr).add j = ⟨b, o + j, Option.none⟩ := by unfold Addr.add; split <;> simp_all

theorem run_loadVar {t : TypeId} {i : TypeInfo} {g : Bool} (hg : aggB P t = some g) (hi : P.info? t = some i) {b x : Nat} {vals : List Value} (hl : vals.length = i.size) (h1 : g = false → vals.length = 1)
    (hc : cellsAt w b x vals) : (loadVar t ⟨b, x, Option.none⟩).run P w = .ok (if g then .agg vals.toArray else vals.getD 0 undef) w := by
  cases g
  · obtain ⟨v, rfl⟩ := List.length_eq_one_iff.1 (h1 rfl)
    have := hc 0 v rfl
    simp only [loadVar, Sem.run_bind, run_isAgg hg, Result.andThen_ok, Bool.false_eq_true, if_false, load, Sem.run]
    simp only [Nat.add_zero] at this
    rw [this]; rfl
  · simp only [loadVar, Sem.run_bind, run_isAgg hg, Result.andThen_ok, if_true, run_sizeOf hi, ← hl]
    rw [run_loadCells_list (P := P) w ⟨b, x, Option.none⟩ vals (fun j v hj => by rw [addr_add]; exact hc j v hj)]
    simp

theorem VRl_sub {as : List AV} {vs : List Value} (c n : Nat) (hv : VRl w L N as vs []) : VRl w L N ((as.drop c).take n) ((vs.drop c).take n) [] := by
  induction as generalizing vs c n with
  | nil => simp only [VRl] at hv; rw [hv.1]; simp [VRl]
  | cons a as ih =>
    obtain ⟨v, vs', rfl, h1, h2⟩ := VRl_nil_cons.1 hv
    cases c with
    | succ c => simpa using ih c n h2
    | zero =>
      cases n with
      | zero => simp [VRl]
      | succ n =>
        have := ih 0 n h2
        simp only [List.drop_zero] at this ⊢
        simp only [List.take_succ_cons]
        exact VRl_nil_cons.2 ⟨v, _, rfl, h1, this⟩

theorem cellsAt_sub {b x : Nat} {vs : List Value} (c n : Nat) (hc : cellsAt w b x vs) : cellsAt w b (x + c) ((vs.drop c).take n) := by
  intro j v hj
  rw [List.getElem?_take] at hj
  split at hj
  · rw [List.getElem?_drop] at hj
    rw [Nat.add_assoc]; exact hc _ v hj
  · cases hj

/-- A variable within a row that is read. -/
theorem ldv_raw {row : List AV} {vals : List Value} {b o c sz : Nat} {g : Bool} {x : AV} {t : TypeId} {i : TypeInfo} (hg : aggB P t = some g) (hi : P.info? t = some i) (hsz : i.size = sz)
    (hv : VRl w L N row vals []) (hc : cellsAt w b o vals) (hl : ldv true g row c sz = some x) :
    ∃ v, (loadVar t ⟨b, o + c, Option.none⟩).run P w = .ok v w ∧ VR w L N x v [] := by
  unfold ldv at hl
  split at hl
  · rename_i hle
    have hlen := VRl_length hv
    have hsub := VRl_sub c sz hv
    have hcs := cellsAt_sub c sz hc
    have hvl : ((vals.drop c).take sz).length = i.size := by rw [List.length_take, List.length_drop, hlen, hsz]; omega
    cases g
    · simp only [Bool.false_eq_true, if_false, if_true] at hl
      split at hl
      · rename_i h1
        rw [run_loadVar hg hi hvl (fun _ => by rw [hvl, hsz, h1]) hcs]
        refine ⟨_, rfl, ?_⟩
        split at hl
        · rename_i y hy
          cases hl
          obtain ⟨v, hv', hr⟩ := VRl_get_nil hv hy
          have : ((vals.drop c).take sz).getD 0 undef = v := by
            rw [List.getD_eq_getElem?_getD, List.getElem?_take_of_lt (by omega), List.getElem?_drop, Nat.add_zero, hv']; rfl
          simp only [Bool.false_eq_true, if_false, this]; exact hr
        · cases hl
      · cases hl
    · simp only [if_true, Option.some.injEq] at hl
      subst hl
      rw [run_loadVar hg hi hvl (by simp) hcs]
      exact ⟨_, rfl, by simp only [if_true, VR]; exact ⟨_, rfl, hsub⟩⟩
  · cases hl

theorem ldv_dr {row : List AV} {c sz : Nat} {g : Bool} {x : AV} (hl : ldv false g row c sz = some x) : ldv true g (drl row) c sz = some x := by
  unfold ldv at hl ⊢
  have hd : (drl row).length = row.length := by rw [drl_eq]; simp
  rw [hd]
  split at hl
  · rename_i hle
    rw [if_pos hle]
    cases g
    · simp only [Bool.false_eq_true, if_false, if_true] at hl ⊢
      split at hl
      · rename_i h1
        rw [if_pos h1, drl_eq, List.getElem?_map]
        split at hl
        · rename_i y hy; rw [hy]; exact hl
        · cases hl
      · cases hl
    · simp only [Bool.false_eq_true, if_false, if_true] at hl ⊢
      rw [← hl, drl_eq, drl_eq, List.map_take, List.map_drop]
  · cases hl

theorem row_cells {b sz : Nat} : ∀ (rows : List (List AV)) (o : Nat) (vals : List Value) (S : List Nat) (r : Nat), (∀ x ∈ rows, x.length = sz) → VRr w L N rows vals S → cellsAt w b o vals → r < rows.length →
    ∃ vs S', VRl w L N (rowD rows r) vs S' ∧ cellsAt w b (o + r * sz) vs ∧ (∀ x ∈ S', x ∈ S)
  | [], _, _, _, r, _, _, _, hr => by simp at hr
  | x :: rows, o, vals, S, r, hsz, hv, hc, hr => by
    simp only [VRr] at hv
    obtain ⟨v1, v2, S1, S2, rfl, rfl, h1, h2⟩ := hv
    have hl1 : v1.length = sz := by rw [VRl_length h1]; exact hsz x (by simp)
    cases r with
    | zero =>
      refine ⟨v1, S1, h1, ?_, fun y hy => by simp [hy]⟩
      intro j v hj
      rw [Nat.zero_mul, Nat.add_zero]
      exact hc j v (by rw [List.getElem?_append_left (List.getElem?_eq_some_iff.1 hj).1]; exact hj)
    | succ r =>
      obtain ⟨vs, S', g1, g2, g3⟩ := row_cells rows (o + sz) v2 S2 r (fun y hy => hsz y (by simp [hy])) h2 (by
        intro j v hj
        rw [Nat.add_assoc]
        exact hc (sz + j) v (by rw [List.getElem?_append_right (by omega), hl1, Nat.add_sub_cancel_left]; exact hj)) (by simpa using hr)
      refine ⟨vs, S', g1, ?_, fun y hy => by simp [g3 y hy]⟩
      rw [Nat.succ_mul, Nat.add_comm (r * sz) sz, ← Nat.add_assoc]; exact g2

theorem HRel.row (H : HRel base w0 w L N F [] h) {id r c : Nat} {B : Blk} {v : Value} (hB : h id = some B) (hv : VR w L N (.ptr id r c) v []) (hr : r < B.rows.length) :
    ∃ b o vs S', v = .pointer (some ⟨b, o + c, Option.none⟩) ∧ VRl w L (if B.box then N else 0) (rowD B.rows r) vs S' ∧ cellsAt w b o vs ∧ (B.box = true → S' = []) := by
  cases hl : L id with
  | none => rw [H.mod id hl] at hB; cases hB
  | some l =>
    simp only [VR] at hv
    have hp := hv.1.2.2 l hl
    have hbr := H.blk id B l hB hl
    cases l with
    | none => exact hp.elim
    | «at» b sz cap =>
      obtain ⟨rfl, h0, cur, t, vals, rest, h1, h2, h3, h4, h5, h6, h7, h8, h9, h10⟩ := hbr
      obtain ⟨vs, S', g1, g2, g3⟩ := row_cells B.rows 0 vals _ r h8 h10 (by
        have := cells_of_row (w := w) (pre := []) (vals := vals) (rest := rest) h1 (by simpa using h2)
        simpa using this) hr
      refine ⟨b, r * B.sz, vs, S', hp, g1, by simpa using g2, fun hb => ?_⟩
      rw [h0 hb] at g3
      exact List.eq_nil_iff_forall_not_mem.2 fun y hy => by simpa using g3 y hy

theorem ok_ld {t : TypeId} {x : Operand} {x' : Opd} {g : Bool} {i : TypeInfo} {sz : Nat} (H : HRel base w0 w L N F [] h) (hs : SRel w L N s a.tmps) (hx : ∃ t', compX P t' x = some x')
    (hg : aggB P t = some g) (hi : P.info? t = some i) (hsz : i.size = sz) (hK : aop P s h N K (.ld g sz x')) :
    Gives P (do pure (.value (← Instr.loadAt t (a.eval x)))) w (Post base w0 w L N K) := by
  obtain ⟨t', hx⟩ := hx
  have hv := compX_sound hx hs
  simp only [aop] at hK
  split at hK
  · rename_i id r c hev
    rw [hev] at hv
    unfold onO at hK
    split at hK
    · rename_i B hB
      obtain ⟨hr, hK⟩ := hK
      split at hK
      · rename_i y hy
        obtain ⟨b, o, vs, S', he, g1, g2, g3⟩ := H.row hB hv hr
        have key : ∃ v, (loadVar t ⟨b, o + c, Option.none⟩).run P w = .ok v w ∧ VR w L N y v [] := by
          cases hbox : B.box
          · rw [hbox] at hy g1
            simp only [Bool.false_eq_true, if_false] at g1
            obtain ⟨v, e1, e2⟩ := ldv_raw (P := P) (L := L) (N := 0) hg hi hsz (VRl_dr _ _ _ g1) g2 (ldv_dr hy)
            exact ⟨v, e1, VR_ext ⟨Nat.zero_le _, fun _ _ hid => absurd hid (Nat.not_lt_zero _), Nat.le_refl _, fun _ _ h => ⟨rfl, h⟩⟩ _ _ _ e2⟩
          · rw [hbox] at hy g1
            simp only [if_true] at g1
            rw [g3 hbox] at g1
            exact ldv_raw hg hi hsz g1 g2 hy
        obtain ⟨v, e1, e2⟩ := key
        refine .of_value (v := v) (w' := w) ?_ (Post.same H e2 hK)
        rw [he]; simp [Instr.loadAt, Instr.sureAddr, e1]
      · exact hK.elim
    · exact hK.elim
  · rename_i row c hev
    rw [hev] at hv
    unfold onO at hK
    split at hK
    · rename_i y hy
      simp only [VR] at hv
      obtain ⟨⟨b, o, vals, he, ho, hb, hc, h1, hr⟩, _⟩ := hv
      obtain ⟨v, e1, e2⟩ := ldv_raw (P := P) (L := L) (N := 0) hg hi hsz hr hc hy
      refine .of_value (v := v) (w' := w) ?_ (Post.same H (VR_ext ⟨Nat.zero_le _, fun _ _ hid => absurd hid (Nat.not_lt_zero _), Nat.le_refl _, fun _ _ h => ⟨rfl, h⟩⟩ _ _ _ e2) hK)
      rw [he]; simp [Instr.loadAt, Instr.sureAddr, e1]
    · exact hK.elim
  · exact hK.elim

/-- A new variable. -/
theorem HRel.newBox (H : HRel base w0 w L N F [] h) {cs : List AV} {vals : List Value} {t : TypeId} (hv : VRl w L N cs vals []) (h1 : one vals) (hpos : 0 < cs.length) :
    ∃ L' F', HRel base w0 (w.alloc (.cells vals.toArray t)) L' (N + 1) F' [] (upd h N (some ⟨true, cs.length, [cs]⟩)) ∧
      VR (w.alloc (.cells vals.toArray t)) L' (N + 1) (.ptr N 0 0) (.pointer (some ⟨w.heap.size, 0, Option.none⟩)) [] ∧ Ext w L N (w.alloc (.cells vals.toArray t)) L' (N + 1) := by
  have hLN : L N = Option.none := by
    cases hl : L N with
    | none => rfl
    | some l => exact absurd (H.lt N l hl) (Nat.lt_irrefl _)
  have hlen := VRl_length hv
  have hcl : cs.length ≤ maxLen ∨ True := .inr trivial
  obtain ⟨g1, g2⟩ := H.chg (w' := w.alloc (.cells vals.toArray t)) (N' := N + 1) (E' := []) N N ⟨true, cs.length, [cs]⟩ (.at w.heap.size cs.length 1) [] (by omega) (by omega) (.inl rfl) (fun hlt => absurd hlt (Nat.lt_irrefl _))
    ((Below.refl base w).alloc H.bsz _) (fun b hb _ => heap_alloc_old w _ _ hb) (fun b sz cap he => by cases he; exact ⟨H.bsz, by simp, .inr (Nat.le_refl _)⟩)
    (fun L' e hL' => ⟨rfl, fun _ => rfl, vals.toArray, t, vals, [], heap_alloc_new w _, by simp, by simp [hlen], hpos, by decide, by simp, by simp [LIM], by simp, h1, by
      simp only [if_true]
      exact VRr_iff.2 (by simpa using VRl_ext e _ _ _ hv)⟩) (by simp) (by simp)
  refine ⟨upd (upd L N Option.none) N (some (.at w.heap.size cs.length 1)), upd (upd F N []) N [], ?_, ?_, g2⟩
  · have : upd (upd h N Option.none) N (some ⟨true, cs.length, [cs]⟩) = upd h N (some ⟨true, cs.length, [cs]⟩) := by funext i; simp only [upd]; split <;> rfl
    rw [← this]; exact g1
  · simp only [VR]
    refine ⟨⟨by omega, rfl, ?_⟩, trivial⟩
    intro l hl
    rw [upd_same] at hl; cases hl
    simp [PtrAt]

theorem ok_boxv {t : TypeId} {x : Operand} {x' : Opd} (H : HRel base w0 w L N F [] h) (hs : SRel w L N s a.tmps) (hx : compX P t x = some x')
    (hK : aop P s h N K (.boxv x')) : Gives P (do pure (.value (← Instr.box t (a.eval x)))) w (Post base w0 w L N K) := by
  have hv := compX_sound hx hs
  obtain ⟨hpos, hcell, hK⟩ := hK
  obtain ⟨hl, h1⟩ := VRl_cellsOf hv hcell
  obtain ⟨L', F', g1, g2, g3⟩ := H.newBox (t := t) hl h1 hpos
  rw [Array.toArray_toList] at g1 g2 g3
  exact .of_value (v := .pointer (some ⟨w.heap.size, 0, Option.none⟩)) (w' := w.alloc (.cells (a.eval x).cells t)) (by simp [Instr.box, newVar, newRow]) ⟨_, _, _, _, _, g1, g3, g2, hK⟩

theorem ok_box {t : TypeId} {z : List AV} {i : TypeInfo} {v : Value} (H : HRel base w0 w L N F [] h) (hi : P.info? t = some i) (hz : i.zero = some v) (hm : matchL z v.cells.toList = true) (hpos : 0 < z.length)
    (hK : aop P s h N K (.box z)) : Gives P (do pure (.value (← Instr.alloc t true (.tuple #[])))) w (Post base w0 w L N K) := by
  obtain ⟨hl, h1⟩ := VRl_matchL (w := w) (L := L) (N := N) hm
  obtain ⟨L', F', g1, g2, g3⟩ := H.newBox (t := t) hl h1 hpos
  rw [Array.toArray_toList] at g1 g2 g3
  exact .of_value (v := .pointer (some ⟨w.heap.size, 0, Option.none⟩)) (w' := w.alloc (.cells v.cells t)) (by simp [Instr.alloc, zeroValue, typeInfo, hi, hz, newVar, newRow]) ⟨_, _, _, _, _, g1, g3, g2, hK⟩

end

end Go.Proofs.Ytlefdibgonpoaaa
