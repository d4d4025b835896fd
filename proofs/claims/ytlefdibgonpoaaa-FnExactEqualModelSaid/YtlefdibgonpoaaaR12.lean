/- Stores, rows, appends, calls. -/
import Derived.Test.YtlefdibgonpoaaaR11
import Derived.Laws.MakeOwn
namespace Go.Proofs.Ytlefdibgonpoaaa
open Go Go.RowKit

section
variable {P : Program} {base : Nat} {w0 w : World} {L : Nat → Option Loc} {N : Nat} {F : Nat → List Nat} {E : List Nat} {h : Heap} {s : Nat → AV} {a : Act} {K : AV → Heap → Nat → Prop}

theorem ok_mnx {t : TypeId} {x y : Operand} {x' y' : Opd} {b mx : Bool} {ts : Array TypeId} {ty : TypeId} (H : HRel base w0 w L N F [] h) (hs : SRel w L N s a.tmps) (hx : compX P t x = some x') (hy : compX P t y = some y')
    (hb : b = mx) (hK : aop P s h N K (.mnx mx x' y')) : Gives P (do pure (.value (← (if b then Builtin.max_ ts ty #[a.eval x, a.eval y] else Builtin.min_ ts ty #[a.eval x, a.eval y])))) w (Post base w0 w L N K) := by
  have hv := compX_sound hx hs
  have hu := compX_sound hy hs
  simp only [aop] at hK
  split at hK
  · rename_i k m k' n hev hew
    rw [VR_int hev hv, VR_int hew hu]
    obtain ⟨rfl, hK⟩ := hK
    subst hb
    cases b
    · exact .of_value (v := .int k (if n < m then n else m)) (w' := w) (by simp [run_min_int2]) (Post.same H (mk_int _ _) hK)
    · exact .of_value (v := .int k (if n > m then n else m)) (w' := w) (by simp [run_max_int2]) (Post.same H (mk_int _ _) hK)
  · exact hK.elim

/-! A slice's memory, and a place in a block. -/
theorem rows_split {rows : List (List AV)} {sz : Nat} {vals : List Value} {S : List Nat} {r : Nat} (hsz : ∀ x ∈ rows, x.length = sz) (hv : VRr w L N rows vals S) (hr : r < rows.length) :
    ∃ v1 v2 v3 S1 S2 S3, vals = v1 ++ (v2 ++ v3) ∧ S = S1 ++ (S2 ++ S3) ∧ v1.length = r * sz ∧ v2.length = sz ∧ VRl w L N (rowD rows r) v2 S2 ∧
      ∀ row' v2' S2', VRl w L N row' v2' S2' → VRr w L N (rows.set r row') (v1 ++ (v2' ++ v3)) (S1 ++ (S2' ++ S3)) := by
  induction rows generalizing vals S r with
  | nil => simp at hr
  | cons x rows ih =>
    simp only [VRr] at hv
    obtain ⟨u1, u2, T1, T2, rfl, rfl, h1, h2⟩ := hv
    have hl1 : u1.length = sz := by rw [VRl_length h1]; exact hsz x (by simp)
    cases r with
    | zero =>
      refine ⟨[], u1, u2, [], T1, T2, rfl, rfl, by simp, hl1, h1, ?_⟩
      intro row' v2' S2' h'
      simp only [List.set_cons_zero, VRr, List.nil_append]
      exact ⟨v2', u2, S2', T2, rfl, rfl, h', h2⟩
    | succ r =>
      obtain ⟨v1, v2, v3, S1, S2, S3, rfl, rfl, g1, g2, g3, g4⟩ := ih (fun y hy => hsz y (by simp [hy])) h2 (by simpa using hr)
      refine ⟨u1 ++ v1, v2, v3, T1 ++ S1, S2, S3, by simp, by simp, by simp [hl1, g1, Nat.succ_mul, Nat.add_comm], g2, g3, ?_⟩
      intro row' v2' S2' h'
      simp only [List.set_cons_succ, VRr]
      exact ⟨u1, _, T1, _, by simp, by simp, h1, g4 row' v2' S2' h'⟩

theorem VRl_splice {row cells : List AV} {vals news : List Value} {S S' : List Nat} {c : Nat} (hv : VRl w L N row vals S) (hn : VRl w L N cells news S') (hc : c + cells.length ≤ row.length) :
    ∃ S1 S3, (∀ x ∈ S1 ++ S3, x ∈ S) ∧ (S.Nodup → (S1 ++ S3).Nodup) ∧ VRl w L N (splice row c cells) (vals.take c ++ (news ++ vals.drop (c + news.length))) (S1 ++ (S' ++ S3)) := by
  have hnl := VRl_length hn
  have e : row = row.take c ++ ((row.drop c).take cells.length ++ row.drop (c + cells.length)) := by
    rw [← List.drop_drop, List.take_append_drop, List.take_append_drop]
  rw [e, VRl_append] at hv
  obtain ⟨v1, v2, S1, S2, rfl, rfl, h1, h2⟩ := hv
  rw [VRl_append] at h2
  obtain ⟨v3, v4, S3, S4, rfl, rfl, h3, h4⟩ := h2
  have l1 : v1.length = c := by rw [VRl_length h1, List.length_take]; omega
  have l3 : v3.length = cells.length := by rw [VRl_length h3, List.length_take, List.length_drop]; omega
  refine ⟨S1, S4, fun x hx => ?_, fun hnd => ?_, ?_⟩
  · rcases List.mem_append.1 hx with hx | hx <;> simp [hx]
  · obtain ⟨n1, n2, n3⟩ := List.nodup_append.1 hnd
    obtain ⟨m1, m2, m3⟩ := List.nodup_append.1 n2
    exact List.nodup_append.2 ⟨n1, m2, fun a ha b hb => n3 a ha b (by simp [hb])⟩
  · have t1 : (v1 ++ (v3 ++ v4)).take c = v1 := by rw [← l1]; simp
    have t2 : (v1 ++ (v3 ++ v4)).drop (c + news.length) = v4 := by
      rw [← List.append_assoc, hnl, ← l1, ← l3, ← List.length_append]; simp
    rw [t1, t2]
    unfold splice
    rw [List.append_assoc]
    exact VRl_append.2 ⟨v1, _, S1, _, rfl, rfl, h1, VRl_append.2 ⟨news, v4, S', S4, rfl, rfl, hn, h4⟩⟩

theorem splice_length {row cells : List AV} {c : Nat} (hc : c + cells.length ≤ row.length) : (splice row c cells).length = row.length := by
  unfold splice; simp only [List.length_append, List.length_take, List.length_drop]; omega

/-- Values are laid over the cells of a row. -/
theorem HRel.store (H : HRel base w0 w L N F E h) {id r c : Nat} {B : Blk} {v : Value} {cells : List AV} {news : List Value} {S' : List Nat} (hB : h id = some B) (hv : VR w L N (.ptr id r c) v [])
    (hr : r < B.rows.length) (hc : c + cells.length ≤ (rowD B.rows r).length) (hn : VRl w L (if B.box then N else 0) cells news S') (h1 : one news)
    (hbox : B.box = true → S' = []) (hE : E = S') :
    ∃ b o w' F', v = .pointer (some ⟨b, o, Option.none⟩) ∧ (storeCells ⟨b, o, Option.none⟩ news).run P w = .ok () w' ∧
      HRel base w0 w' L N F' [] (upd h id (some ⟨B.box, B.sz, B.rows.set r (splice (rowD B.rows r) c cells)⟩)) ∧ Ext w L N w' L N := by
  cases hl : L id with
  | none => rw [H.mod id hl] at hB; cases hB
  | some l =>
    have hid := H.lt id l hl
    simp only [VR] at hv
    have hp := hv.1.2.2 l hl
    have hbr := H.blk id B l hB hl
    cases l with
    | none => exact hp.elim
    | «at» b sz cap =>
      obtain ⟨rfl, h0, cur, t, vals, rest, g1, g2, g3, g4, g5, g6, g7, g8, g9, g10⟩ := hbr
      simp only [PtrAt] at hp
      have hnl := VRl_length hn
      have hrow : (rowD B.rows r).length = B.sz := by
        unfold rowD; rw [List.getD_eq_getElem?_getD, List.getElem?_eq_getElem hr]; exact g8 _ (List.getElem_mem _)
      obtain ⟨v1, v2, v3, S1, S2, S3, rfl, hF, l1, l2, k1, k2⟩ := rows_split g8 g10 hr
      obtain ⟨T1, T3, q1, q2, q3⟩ := VRl_splice k1 hn hc
      have hnd := H.nd id
      have hvals : (v1 ++ (v2 ++ v3)).length ≤ cur.size := by rw [← Array.length_toList, g2]; simp
      have hst := run_storeCells_at P b (r * B.sz + c) t news 0 cur w g1 (by
        simp only [List.length_append] at hvals; omega) h1
      simp only [Nat.add_zero] at hst
      have htake : cur.toList.take (r * B.sz + c) ++ news ++ cur.toList.drop (r * B.sz + c + news.length) = (v1 ++ ((v2.take c ++ (news ++ v2.drop (c + news.length))) ++ v3)) ++ rest := by
        rw [g2]
        have e1 : (v1 ++ (v2 ++ v3) ++ rest).take (r * B.sz + c) = v1 ++ v2.take c := by
          rw [← l1, List.append_assoc, List.take_length_add_append, List.append_assoc, List.take_append_of_le_length (by omega)]
        have e2 : (v1 ++ (v2 ++ v3) ++ rest).drop (r * B.sz + c + news.length) = v2.drop (c + news.length) ++ v3 ++ rest := by
          rw [← l1, List.append_assoc, Nat.add_assoc, List.drop_length_add_append, List.append_assoc, List.drop_append_of_le_length (by omega), List.append_assoc]
        rw [e1, e2]; simp
      rw [htake] at hst
      obtain ⟨m1, m2⟩ := H.chg (w' := w.setRow b ((v1 ++ ((v2.take c ++ (news ++ v2.drop (c + news.length))) ++ v3)) ++ rest).toArray) (N' := N) (E' := []) id id ⟨B.box, B.sz, B.rows.set r (splice (rowD B.rows r) c cells)⟩ (.at b B.sz cap)
        (S1 ++ ((T1 ++ (S' ++ T3)) ++ S3)) (Nat.le_refl _) hid (.inl rfl) (fun _ => hl)
        ⟨rfl, rfl, rfl, by simp, fun k hk => setRow_other w b k _ (fun he => by have := H.lo b ⟨id, B.sz, cap, hl⟩; omega)⟩
        (fun b' hb' hne => setRow_other w b b' _ (fun he => hne B.sz cap (he ▸ hl)))
        (fun b' sz' cap' he => by cases he; exact ⟨H.lo b ⟨id, B.sz, cap, hl⟩, by rw [size_setRow]; exact lt_of_heap g1, .inl ⟨B.sz, cap, hl⟩⟩)
        (fun L' e hL' => by
          refine ⟨rfl, fun hbx => ?_, _, t, v1 ++ ((v2.take c ++ (news ++ v2.drop (c + news.length))) ++ v3), rest, setRow_heap w b cur _ t (0, 0) g1, by simp, ?_, g4, g5, by simpa using g6, by simpa using g7, ?_, ?_, ?_⟩
          · have := h0 hbx
            rw [hF] at this
            simp only [List.append_eq_nil_iff] at this
            obtain ⟨r1, r2, r3⟩ := this
            subst r1 r2 r3
            have hT : T1 ++ T3 = [] := List.eq_nil_iff_forall_not_mem.2 fun y hy => by simpa using q1 y hy
            simp only [List.append_eq_nil_iff] at hT
            simp [hT.1, hT.2, hbox hbx]
          · have : ((v1 ++ ((v2.take c ++ (news ++ v2.drop (c + news.length))) ++ v3)) ++ rest).length = cur.toList.length := by
              rw [g2]; simp only [List.length_append, List.length_take, List.length_drop]; omega
            simp only [List.size_toArray, this, Array.length_toList, g3]
          · intro x hx
            rcases List.mem_or_eq_of_mem_set hx with hx | rfl
            · exact g8 x hx
            · rw [splice_length hc, hrow]
          · intro x hx
            simp only [List.mem_append] at hx
            rcases hx with hx | ⟨hx | hx | hx⟩ | hx
            · exact g9 x (by simp [hx])
            · exact g9 x (by simp [List.mem_of_mem_take hx])
            · exact h1 x hx
            · exact g9 x (by simp [List.mem_of_mem_drop hx])
            · exact g9 x (by simp [hx])
          · have := k2 _ _ _ q3
            cases hbb : B.box <;> simp only [hbb, if_true, if_false, Bool.false_eq_true] at this ⊢ <;> first | exact VRr_ext e _ _ _ this | exact VRr_ext e.zero _ _ _ this)
        (by
          rw [List.append_nil]
          rw [hF] at hnd
          have hSE : ∀ x ∈ S', x ∉ F id := fun x hx hf => H.de id x hf (hE ▸ hx)
          have hSn : S'.Nodup := hE ▸ H.ne
          obtain ⟨n1, n2, n3⟩ := List.nodup_append.1 hnd
          obtain ⟨n4, n5, n6⟩ := List.nodup_append.1 n2
          have hT := q2 n4
          obtain ⟨n7, n8, n9⟩ := List.nodup_append.1 hT
          rw [hF] at hSE
          refine List.nodup_append.2 ⟨n1, List.nodup_append.2 ⟨List.nodup_append.2 ⟨n7, List.nodup_append.2 ⟨hSn, n8, ?_⟩, ?_⟩, n5, ?_⟩, ?_⟩
          · rintro x hx y hy rfl; exact hSE x hx (by simp [q1 x (by simp [hy])])
          · rintro x hx y hy rfl
            rcases List.mem_append.1 hy with hy | hy
            · exact hSE x hy (by simp [q1 x (by simp [hx])])
            · exact n9 x hx x hy rfl
          · rintro x hx y hy rfl
            simp only [List.mem_append] at hx
            rcases hx with hx | hx | hx
            · exact n6 x (q1 x (by simp [hx])) x hy rfl
            · exact hSE x hx (by simp [hy])
            · exact n6 x (q1 x (by simp [hx])) x hy rfl
          · rintro x hx y hy rfl
            simp only [List.mem_append] at hy
            rcases hy with (hy | hy | hy) | hy
            · exact n3 x hx x (by simp [q1 x (by simp [hy])]) rfl
            · exact hSE x hy (by simp [hx])
            · exact n3 x hx x (by simp [q1 x (by simp [hy])]) rfl
            · exact n3 x hx x (by simp [hy]) rfl)
        (fun x hx => by
          simp only [List.append_nil, List.mem_append] at hx
          rw [hF, hE]
          rcases hx with hx | (hx | hx | hx) | hx
          · left; simp [hx]
          · left; simp [q1 x (by simp [hx])]
          · right; exact hx
          · left; simp [q1 x (by simp [hx])]
          · left; simp [hx])
      have hLe : upd (upd L id Option.none) id (some (.at b B.sz cap)) = L := by
        funext i; simp only [upd]; split
        · rename_i hi; rw [hi, hl]
        · rfl
      rw [hLe] at m1 m2
      have hhe : ∀ X : Option Blk, upd (upd h id Option.none) id X = upd h id X := fun X => by funext i; simp only [upd]; split <;> rfl
      rw [hhe] at m1
      exact ⟨b, r * B.sz + c, _, _, hp, hst, m1, m2⟩
end

end Go.Proofs.Ytlefdibgonpoaaa
