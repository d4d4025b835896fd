/- Operations on numbers, strings and parts; new rows. -/
import Derived.Test.YtlefdibgonpoaaaR10
import Derived.Laws.Strings
import Derived.Laws.Small
namespace Go.Proofs.Ytlefdibgonpoaaa
open Go Go.RowKit

section
variable {P : Program} {base : Nat} {w0 w : World} {L : Nat → Option Loc} {N : Nat} {F : Nat → List Nat} {h : Heap} {s : Nat → AV} {a : Act} {K : AV → Heap → Nat → Prop}

theorem ok_slcl {t e : TypeId} {i : TypeInfo} {x : Operand} {x' : Opd} {lo hi : Option Operand} {lo' hi' : Option Opd} (H : HRel base w0 w L N F [] h) (hs : SRel w L N s a.tmps) (hx : ∃ t, compX P t x = some x')
    (hlo : match lo, lo' with | some x, some x' => ∃ t, compX P t x = some x' | Option.none, Option.none => True | _, _ => False)
    (hhi : match hi, hi' with | some x, some x' => ∃ t, compX P t x = some x' | Option.none, Option.none => True | _, _ => False)
    (ht : P.underlying t = some (.slice e)) (hi2 : P.info? e = some i)
    (hK : aop P s h N K (.slc false i.size x' lo' hi')) : Gives P (do pure (.value (← Instr.sliceAt t (a.eval x) (lo.map a.eval) (hi.map a.eval) Option.none))) w (Post base w0 w L N K) := by
  obtain ⟨t', hx⟩ := hx
  have hv := compX_sound hx hs
  have run : ∀ (A : Option Addr) (n cap : Nat) (a' b' : Int), a.eval x = .slice A n cap → ((lo = Option.none ∧ a' = 0) ∨ ∃ x k, lo = some x ∧ a.eval x = .int k a') →
      ((hi = Option.none ∧ b' = n) ∨ ∃ x k, hi = some x ∧ a.eval x = .int k b') → 0 ≤ a' → a' ≤ b' → b' ≤ n → n ≤ cap →
      (Instr.sliceAt t (a.eval x) (lo.map a.eval) (hi.map a.eval) Option.none).run P w = .ok (.slice (if cap = a'.toNat then A else A.map (·.add (a'.toNat * i.size))) (b'.toNat - a'.toNat) (cap - a'.toNat)) w := fun A n cap a' b' he h1 h2 h3 h4 h5 h6 => by
    have r := run_bounds (P := P) (a := a) (isS := true) (len := n) (cap := cap) h1 h2 h3 h4 h5 h6 w
    simp [Instr.sliceAt, Instr.slice, run_underlying ht, he, r, sizeOf, typeInfo, hi2]
  simp only [aop] at hK
  split at hK
  · rename_i hb _; cases hb
  · rename_i sz rows _ hev
    rw [hev] at hv
    simp only [VR] at hv
    obtain ⟨⟨A, cap, vals, he, ⟨hlim, hcap⟩, hr, hb⟩, _⟩ := hv
    unfold onO at hK
    split at hK
    · rename_i a' ha
      split at hK
      · rename_i b' hb'
        obtain ⟨rfl, h0, h1, h2, hK⟩ := hK
        have r := run A rows.length cap a' b' he (lowOf_sound hs hlo ha) (lowOf_sound hs hhi hb') h0 h1 h2 hcap
        have hlen : ((rows.take b'.toNat).drop a'.toNat).length = b'.toNat - a'.toNat := by simp only [List.length_drop, List.length_take]; omega
        refine .of_value (v := .slice (if cap = a'.toNat then A else A.map (·.add (a'.toNat * i.size))) (b'.toNat - a'.toNat) (cap - a'.toNat)) (w' := w) (by simp [r]) (Post.same H ?_ hK)
        rw [List.drop_take] at hlen ⊢
        obtain ⟨v1, v2, S1, S2, rfl, hS, g1, g2⟩ := VRr_take a'.toNat hr
        obtain ⟨rfl, rfl⟩ := List.append_eq_nil_iff.1 hS.symm
        obtain ⟨v3, v4, S3, S4, rfl, hS', g3, g4⟩ := VRr_take (b'.toNat - a'.toNat) g2
        obtain ⟨rfl, rfl⟩ := List.append_eq_nil_iff.1 hS'.symm
        simp only [VR]
        refine ⟨⟨_, _, v3, by rw [hlen], by rw [hlen]; exact ⟨by omega, by omega⟩, g3, ?_⟩, trivial⟩
        by_cases h00 : b'.toNat - a'.toNat = 0
        · left; rw [h00, List.take_zero]
        · right
          rcases hb with rfl | ⟨b, o, rfl, ho, hb, hsz, hc, hone⟩
          · simp at h2; omega
          · have hv1 : v1.length = a'.toNat * i.size := by
              rw [VRr_length (fun r hr => hsz r (List.mem_of_mem_take hr)) g1, List.length_take, Nat.min_eq_left (by omega)]
            refine ⟨b, o + a'.toNat * i.size, ?_, ho, hb, fun r hr => hsz r (List.mem_of_mem_drop (List.mem_of_mem_take hr)), ?_, fun v hv => hone v (by simp [hv])⟩
            · rw [if_neg (by omega)]; simp [addr_add]
            · intro j v hj
              rw [← hv1, Nat.add_assoc]
              exact hc (v1.length + j) v (by rw [List.getElem?_append_right (by omega), Nat.add_sub_cancel_left, List.getElem?_append_left (List.getElem?_eq_some_iff.1 hj).1]; exact hj)
      · exact hK.elim
    · exact hK.elim
  · rename_i id off len _ hev
    rw [hev] at hv
    unfold onO at hK
    split at hK
    · rename_i a' ha
      split at hK
      · rename_i b' hb'
        obtain ⟨h0, h1, h2, hK⟩ := hK
        split at hK
        · rename_i B hB
          obtain ⟨hsz, hK⟩ := hK
          simp only [VR] at hv
          cases hl : L id with
          | none => rw [H.mod id hl] at hB; cases hB
          | some l =>
            have hp := hv.1.2.2 l hl
            have hbr := H.blk id B l hB hl
            have hab : (b' - a').toNat = b'.toNat - a'.toNat := by omega
            cases l with
            | none =>
              obtain ⟨hlim, rfl, rfl, he⟩ := hp
              have r := run Option.none 0 0 a' b' he (lowOf_sound hs hlo ha) (lowOf_sound hs hhi hb') h0 h1 h2 (Nat.le_refl _)
              have ha0 : a' = 0 := by omega
              have hb0 : b' = 0 := by omega
              subst ha0; subst hb0
              refine .of_value (v := .slice Option.none 0 0) (w' := w) (by rw [Sem.run_bind, r]; rfl) (Post.same H ?_ hK)
              simp only [VR]
              refine ⟨⟨hv.1.1, rfl, fun l' hl' => ?_⟩, trivial⟩
              rw [hl] at hl'; cases hl'
              exact ⟨Nat.zero_le _, rfl, rfl, rfl⟩
            | «at» b sz cap =>
              obtain ⟨rfl, _⟩ := hbr
              obtain ⟨hlim, A, he, hA, hcap⟩ := hp
              have r := run A len (cap - off) a' b' he (lowOf_sound hs hlo ha) (lowOf_sound hs hhi hb') h0 h1 h2 (by omega)
              refine .of_value (v := .slice (if cap - off = a'.toNat then A else A.map (·.add (a'.toNat * i.size))) (b'.toNat - a'.toNat) (cap - off - a'.toNat)) (w' := w) (by simp [r]) (Post.same H ?_ hK)
              simp only [VR]
              refine ⟨⟨hv.1.1, rfl, fun l' hl' => ?_⟩, trivial⟩
              rw [hl] at hl'; cases hl'
              refine ⟨by omega, (if cap - off = a'.toNat then A else A.map (·.add (a'.toNat * i.size))), by rw [hab, Nat.sub_sub], ?_, by omega⟩
              rintro (hlt | h00)
              · have := hA (.inl (by omega))
                subst this
                rw [if_neg (by omega)]; simp [addr_add, ← hsz, Nat.add_mul]
              · have := hA (.inr (by omega))
                subst this
                have ha0 : a'.toNat = 0 := by omega
                have ho0 : off = 0 := by omega
                rw [ha0, ho0]; simp [addr_add]
        · exact hK.elim
      · exact hK.elim
    · exact hK.elim
  · rename_i sz _ hev
    rw [hev] at hv
    simp only [VR] at hv
    unfold onO at hK
    split at hK
    · rename_i a' ha
      split at hK
      · rename_i b' hb'
        obtain ⟨rfl, rfl, hK⟩ := hK
        have r := run Option.none 0 0 0 0 hv.1 (lowOf_sound hs hlo ha) (lowOf_sound hs hhi hb') (Int.le_refl _) (Int.le_refl _) (by simp) (Nat.le_refl _)
        exact .of_value (v := .slice Option.none 0 0) (w' := w) (by rw [Sem.run_bind, r]; rfl) (Post.same H (by simp [VR]) hK)
      · exact hK.elim
    · exact hK.elim
  · exact hK.elim

theorem ok_bin {op : BinOp} {t u : TypeId} {x y : Operand} {x' y' : Opd} (H : HRel base w0 w L N F [] h) (hs : SRel w L N s a.tmps) (hx : compX P t x = some x') (hy : compX P u y = some y')
    (hK : aop P s h N K (.bin op x' y')) : Gives P (do pure (.value (← (do eqGuard op t x y (a.eval x) (a.eval y); binOp op t (a.eval x) (a.eval y))))) w (Post base w0 w L N K) := by
  have hv := compX_sound hx hs
  have hu := compX_sound hy hs
  simp only [aop] at hK
  split at hK
  · rename_i k m k' n hev hew
    rw [VR_int hev hv, VR_int hew hu]
    obtain ⟨rfl, hK⟩ := hK
    have hg : (eqGuard op t x y (.int k m) (.int k n)).run P w = .ok () w := by cases op <;> simp [eqGuard]
    split at hK
    · obtain ⟨hn, hK⟩ := hK
      exact .of_value (v := .int k (k.wrap (m.tdiv n))) (w' := w) (by simp [hg, binOp, Op.intDiv, hn]) (Post.same H (mk_int _ _) hK)
    · obtain ⟨hn, hK⟩ := hK
      exact .of_value (v := .int k (m.tmod n)) (w' := w) (by simp [hg, binOp, Op.intDiv, hn]) (Post.same H (mk_int _ _) hK)
    · rename_i hq hr
      unfold onO at hK
      split at hK
      · rename_i r hr'
        cases op <;> simp only [binI, Option.some.injEq, reduceCtorEq] at hr' <;> subst hr'
        · exact .of_value (v := .int k (k.wrap (m + n))) (w' := w) (by simp [hg, binOp, Op.intArith]) (Post.same H (mk_int _ _) hK)
        · exact .of_value (v := .int k (k.wrap (m - n))) (w' := w) (by simp [hg, binOp, Op.intArith]) (Post.same H (mk_int _ _) hK)
        · exact .of_value (v := .int k (k.wrap (m * n))) (w' := w) (by simp [hg, binOp, Op.intArith]) (Post.same H (mk_int _ _) hK)
        · exact .of_value (v := .int k (Go.bits .and k m n)) (w' := w) (by simp [hg, binOp, intBits_and]) (Post.same H (mk_int _ _) hK)
        · exact .of_value (v := .int k (Go.bits .or k m n)) (w' := w) (by simp [hg, binOp, intBits_or]) (Post.same H (mk_int _ _) hK)
        · exact .of_value (v := .int k (Go.bits .xor k m n)) (w' := w) (by simp [hg, binOp, intBits_xor]) (Post.same H (mk_int _ _) hK)
        · exact .of_value (v := .bool (m == n)) (w' := w) (by simp [hg, binOp, Op.intCmp]) (Post.same H (mk_bool _) hK)
        · exact .of_value (v := .bool (m != n)) (w' := w) (by simp [hg, binOp, Op.intCmp]) (Post.same H (mk_bool _) hK)
        · exact .of_value (v := .bool (decide (m < n))) (w' := w) (by simp [hg, binOp, Op.intCmp]) (Post.same H (mk_bool _) hK)
        · exact .of_value (v := .bool (decide (m ≤ n))) (w' := w) (by simp [hg, binOp, Op.intCmp]) (Post.same H (mk_bool _) hK)
        · exact .of_value (v := .bool (decide (m > n))) (w' := w) (by simp [hg, binOp, Op.intCmp]) (Post.same H (mk_bool _) hK)
        · exact .of_value (v := .bool (decide (m ≥ n))) (w' := w) (by simp [hg, binOp, Op.intCmp]) (Post.same H (mk_bool _) hK)
      · exact hK.elim
  · rename_i l l' hev hew
    obtain ⟨b, he, hb, hlim⟩ := VR_str hev hv
    obtain ⟨b', he', hb', hlim'⟩ := VR_str hew hu
    rw [he, he']
    have hg : (eqGuard op t x y (.string b) (.string b')).run P w = .ok () w := by cases op <;> simp [eqGuard]
    split at hK
    · obtain ⟨hlen, hK⟩ := hK
      have h1 : b.size = l.length := by rw [← hb]; simp
      have h2 : b'.size = l'.length := by rw [← hb']; simp
      refine .of_value (v := .string (b ++ b')) (w' := w) ?_ (Post.same H (mk_str (by simp [hb, hb']) (by simpa using hlen)) hK)
      have hmax : IntKind.i64.max = 9223372036854775807 := by decide
      have : ¬ ((b.size : Int) + (b'.size : Int) > IntKind.i64.max) := by
        rw [h1, h2, hmax]
        simp only [LIM] at hlen
        omega
      have this' : (b.size : Int) + (b'.size : Int) ≤ 9223372036854775807 := by rw [hmax] at this; omega
      simp [hg, binOp, Op.stringOp, this']
    · unfold onO at hK
      split at hK
      · rename_i r hr'
        have e1 : b.toList = l := by rw [_root_.Go.ByteArray.toList_eq, hb]
        have e2 : b'.toList = l' := by rw [_root_.Go.ByteArray.toList_eq, hb']
        cases op <;> simp only [binS, Option.some.injEq, reduceCtorEq] at hr' <;> subst hr'
        · exact .of_value (v := .bool (l == l')) (w' := w) (by simp [hg, binOp, Op.stringOp, e1, e2]) (Post.same H (mk_bool _) hK)
        · exact .of_value (v := .bool (!(l == l'))) (w' := w) (by simp [hg, binOp, Op.stringOp, e1, e2]) (Post.same H (mk_bool _) hK)
        · exact .of_value (v := .bool (Op.bytesLess l l')) (w' := w) (by simp [hg, binOp, Op.stringOp, e1, e2]) (Post.same H (mk_bool _) hK)
        · exact .of_value (v := .bool (Op.bytesLess l l' || l == l')) (w' := w) (by simp [hg, binOp, Op.stringOp, e1, e2]) (Post.same H (mk_bool _) hK)
        · exact .of_value (v := .bool (!(Op.bytesLess l l' || l == l'))) (w' := w) (by simp [hg, binOp, Op.stringOp, e1, e2]) (Post.same H (mk_bool _) hK)
        · exact .of_value (v := .bool (!(Op.bytesLess l l'))) (w' := w) (by simp [hg, binOp, Op.stringOp, e1, e2]) (Post.same H (mk_bool _) hK)
      · exact hK.elim
  · exact hK.elim

theorem ok_beq {op : BinOp} {neg : Bool} {t u : TypeId} {x y : Operand} {x' y' : Opd} (H : HRel base w0 w L N F [] h) (hs : SRel w L N s a.tmps) (hx : compX P t x = some x') (hy : compX P u y = some y')
    (hub : P.underlying t = some .bool) (hop : op = if neg then .neq else .eql)
    (hK : aop P s h N K (.beq neg x' y')) : Gives P (do pure (.value (← (do eqGuard op t x y (a.eval x) (a.eval y); binOp op t (a.eval x) (a.eval y))))) w (Post base w0 w L N K) := by
  have hv := compX_sound hx hs
  have hu := compX_sound hy hs
  simp only [aop] at hK
  split at hK
  · rename_i c c' hev hew
    rw [VR_bool hev hv, VR_bool hew hu]
    cases neg
    · simp only [Bool.false_eq_true, if_false] at hop hK
      subst hop
      exact .of_value (v := .bool (c == c')) (w' := w) (by simp [eqGuard, run_eql_bool w t c c' hub]) (Post.same H (mk_bool _) hK)
    · simp only [if_true] at hop hK
      subst hop
      exact .of_value (v := .bool (!(c == c'))) (w' := w) (by simp [eqGuard, run_neq_bool w t c c' hub]) (Post.same H (mk_bool _) hK)
  · exact hK.elim

end

end Go.Proofs.Ytlefdibgonpoaaa
