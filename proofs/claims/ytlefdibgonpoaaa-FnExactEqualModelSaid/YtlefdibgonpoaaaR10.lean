/- Operations on plain values, places and lengths. -/
import Derived.Test.YtlefdibgonpoaaaR9
namespace Go.Proofs.Ytlefdibgonpoaaa
open Go Go.RowKit

section
variable {P : Program} {base : Nat} {w0 w : World} {L : Nat → Option Loc} {N : Nat} {F : Nat → List Nat} {h : Heap} {s : Nat → AV} {a : Act} {K : AV → Heap → Nat → Prop}

theorem VR_bool {x : AV} {v : Value} {b : Bool} (hx : x = .bool b) (hv : VR w L N x v []) : v = .bool b := by subst hx; simp only [VR] at hv; exact hv.1
theorem VR_int {x : AV} {v : Value} {k : IntKind} {n : Int} (hx : x = .int k n) (hv : VR w L N x v []) : v = .int k n := by subst hx; simp only [VR] at hv; exact hv.1
theorem VR_str {x : AV} {v : Value} {l : List UInt8} (hx : x = .str l) (hv : VR w L N x v []) : ∃ b : ByteArray, v = .string b ∧ b.data.toList = l ∧ l.length ≤ LIM := by subst hx; simp only [VR] at hv; exact hv.1
theorem mk_int (k : IntKind) (n : Int) : VR w L N (.int k n) (.int k n) [] := by simp [VR]
theorem mk_bool (b : Bool) : VR w L N (.bool b) (.bool b) [] := by simp [VR]
theorem mk_str {b : ByteArray} {l : List UInt8} (h : b.data.toList = l) (hl : l.length ≤ LIM) : VR w L N (.str l) (.string b) [] := by simp only [VR]; exact ⟨⟨b, rfl, h, hl⟩, trivial⟩

theorem asI_some {x : AV} {v : Value} {n : Int} (hx : asI x = some n) (hv : VR w L N x v []) : ∃ k, v = .int k n := by
  cases x <;> simp only [asI, reduceCtorEq, Option.some.injEq] at hx
  subst hx; simp only [VR] at hv; exact ⟨_, hv.1⟩

theorem ok_nchk {x : Operand} {x' : Opd} (H : HRel base w0 w L N F [] h) (hs : SRel w L N s a.tmps) (hx : ∃ t, compX P t x = some x')
    (hK : aop P s h N K (.nchk x')) {m : Sem Next} (hm : ∀ b o, a.eval x = .pointer (some ⟨b, o, Option.none⟩) → m = pure (.value (a.eval x))) : Gives P m w (Post base w0 w L N K) := by
  obtain ⟨t, hx⟩ := hx
  have hv := compX_sound hx hs
  simp only [aop] at hK
  split at hK
  · rename_i id r c hev
    rw [hev] at hv
    obtain ⟨hal, hK⟩ := hK
    have hv' := hv
    simp only [VR] at hv'
    cases hl : L id with
    | none => rw [H.mod id hl] at hal; cases hal
    | some l =>
      have hp := hv'.1.2.2 l hl
      cases l with
      | none => exact hp.elim
      | «at» b sz cap =>
        rw [hm _ _ hp]
        exact .of_value rfl (Post.same H hv hK)
  · rename_i row c hev
    rw [hev] at hv
    have hv' := hv
    simp only [VR] at hv'
    obtain ⟨⟨b, o, vals, he, _⟩, _⟩ := hv'
    rw [hm _ _ he]
    exact .of_value rfl (Post.same H hv hK)
  · exact hK.elim

/-- The place behind an address, c cells on. -/
theorem ok_fld {t : TypeId} {x : Operand} {x' : Opd} {f : Nat} {fields : Array Field} {fd : Field} {i : TypeInfo} (H : HRel base w0 w L N F [] h) (hs : SRel w L N s a.tmps) (hx : ∃ t, compX P t x = some x')
    (ht : P.underlying t = some (.struct fields)) (hf : fields[f]? = some fd) (hi : P.info? fd.type = some i) (hsz : i.size ≠ 0)
    (hK : aop P s h N K (.fld fd.offset x')) : Gives P (do pure (.value (← Instr.fieldAt t (a.eval x) f))) w (Post base w0 w L N K) := by
  obtain ⟨t', hx⟩ := hx
  have hv := compX_sound hx hs
  have run : ∀ b o, a.eval x = .pointer (some ⟨b, o, Option.none⟩) → (Instr.fieldAt t (a.eval x) f).run P w = .ok (.pointer (some ⟨b, o + fd.offset, Option.none⟩)) w := fun b o he => by
    simp [Instr.fieldAt, run_underlying ht, hf, he, Instr.sureAddr, fieldPlace, sizeOf, typeInfo, hi, hsz, addr_add]
  simp only [aop] at hK
  split at hK
  · rename_i id r c hev
    rw [hev] at hv
    obtain ⟨hal, hK⟩ := hK
    simp only [VR] at hv
    cases hl : L id with
    | none => rw [H.mod id hl] at hal; cases hal
    | some l =>
      have hp := hv.1.2.2 l hl
      cases l with
      | none => exact hp.elim
      | «at» b sz cap =>
        refine .of_value (v := .pointer (some ⟨b, r * sz + c + fd.offset, Option.none⟩)) (w' := w) (by simp [run _ _ hp]) (Post.same H ?_ hK)
        simp only [VR]
        refine ⟨⟨hv.1.1, rfl, fun l' hl' => ?_⟩, trivial⟩
        rw [hl] at hl'; cases hl'
        simp [PtrAt, Nat.add_assoc]
  · rename_i row c hev
    rw [hev] at hv
    simp only [VR] at hv
    obtain ⟨⟨b, o, vals, he, rest⟩, _⟩ := hv
    refine .of_value (v := .pointer (some ⟨b, o + c + fd.offset, Option.none⟩)) (w' := w) (by simp [run _ _ he]) (Post.same H ?_ hK)
    simp only [VR]
    exact ⟨⟨b, o, vals, by rw [Nat.add_assoc], rest⟩, trivial⟩
  · exact hK.elim

theorem ok_prt {t : TypeId} {x : Operand} {x' : Opd} {f : Nat} {fields : Array Field} {fd : Field} {i : TypeInfo} {g : Bool} (H : HRel base w0 w L N F [] h) (hs : SRel w L N s a.tmps) (hx : ∃ t, compX P t x = some x')
    (ht : P.underlying t = some (.struct fields)) (hf : fields[f]? = some fd) (hg : aggB P fd.type = some g) (hi : P.info? fd.type = some i)
    (hK : aop P s h N K (.prt g fd.offset i.size x')) : Gives P (do pure (.value (← Instr.field t (a.eval x) f))) w (Post base w0 w L N K) := by
  obtain ⟨t', hx⟩ := hx
  have hv := compX_sound hx hs
  simp only [aop] at hK
  split at hK
  · rename_i cs hev
    rw [hev] at hv
    simp only [VR] at hv
    obtain ⟨vs, he, hl⟩ := hv
    unfold onO at hK
    split at hK
    · rename_i y hy
      unfold ldv at hy
      split at hy
      · rename_i hle
        cases g
        · simp only [Bool.false_eq_true, if_false, if_true] at hy
          split at hy
          · split at hy
            · rename_i z hz
              cases hy
              obtain ⟨v, hv', hr⟩ := VRl_get_nil hl hz
              rw [Array.getElem?_toList] at hv'
              refine .of_value (v := v) (w' := w) ?_ (Post.same H hr hK)
              simp [Instr.field, run_underlying ht, hf, he, asAgg, part, run_isAgg hg, hv']
            · cases hy
          · cases hy
        · simp only [if_true, Option.some.injEq] at hy
          subst hy
          refine .of_value (v := .agg (vs.extract fd.offset (fd.offset + i.size))) (w' := w) ?_ (Post.same H ?_ hK)
          · simp [Instr.field, run_underlying ht, hf, he, asAgg, part, run_isAgg hg, sizeOf, typeInfo, hi]
          · simp only [VR]
            refine ⟨_, rfl, ?_⟩
            have := VRl_sub fd.offset i.size hl
            simpa [Array.toList_extract, List.extract_eq_take_drop, Nat.add_sub_cancel_left] using this
      · cases hy
    · exact hK.elim
  · exact hK.elim

theorem ok_ixa {t e : TypeId} {x y : Operand} {x' y' : Opd} {i : TypeInfo} (H : HRel base w0 w L N F [] h) (hs : SRel w L N s a.tmps) (hx : ∃ t, compX P t x = some x') (hy : ∃ t, compX P t y = some y')
    (ht : P.underlying t = some (.slice e)) (hi : P.info? e = some i)
    (hK : aop P s h N K (.ixa i.size x' y')) : Gives P (do pure (.value (← Instr.indexAt t (a.eval x) (a.eval y)))) w (Post base w0 w L N K) := by
  obtain ⟨t1, hx⟩ := hx
  obtain ⟨t2, hy⟩ := hy
  have hv := compX_sound hx hs
  have hu := compX_sound hy hs
  have run : ∀ b o len cap k (j : Int), a.eval x = .slice (some ⟨b, o, Option.none⟩) len cap → a.eval y = .int k j → 0 ≤ j → j < len →
      (Instr.indexAt t (a.eval x) (a.eval y)).run P w = .ok (.pointer (some ⟨b, o + j.toNat * i.size, Option.none⟩)) w := fun b o len cap k j he hj h0 h1 => by
    simp [Instr.indexAt, asIntOf, run_underlying ht, he, hj, h0, h1, sizeOf, typeInfo, hi, addr_add]
  simp only [aop] at hK
  split at hK
  · rename_i sz' rows j hev hj
    rw [hev] at hv
    obtain ⟨k, hj'⟩ := asI_some hj hu
    obtain ⟨rfl, h0, h1, hK⟩ := hK
    simp only [VR] at hv
    obtain ⟨⟨A, cap, vals, he, hlim, hr, hb⟩, _⟩ := hv
    rcases hb with rfl | ⟨b, o, rfl, ho, hb, hsz, hc, hone⟩
    · simp at h1; omega
    · have hlt : j.toNat < rows.length := by omega
      obtain ⟨vs, S', g1, g2, g3⟩ := row_cells rows o vals [] j.toNat hsz hr hc hlt
      have hS : S' = [] := List.eq_nil_iff_forall_not_mem.2 fun y hy => by simpa using g3 y hy
      subst hS
      refine .of_value (v := .pointer (some ⟨b, o + j.toNat * i.size, Option.none⟩)) (w' := w) (by simp [run _ _ _ _ _ _ he hj' h0 h1]) (Post.same H ?_ hK)
      simp only [VR]
      refine ⟨⟨b, o + j.toNat * i.size, vs, by simp, ho, hb, g2, ?_, g1⟩, trivial⟩
      intro v hvm
      obtain ⟨q, hq⟩ := List.mem_iff_getElem?.1 hvm
      have h2 := g2 q v hq
      have hlen : vals.length = rows.length * i.size := VRr_length hsz hr
      have hvl : vs.length = i.size := by rw [VRl_length g1]; exact hsz _ (by unfold rowD; rw [List.getD_eq_getElem?_getD, List.getElem?_eq_getElem hlt]; exact List.getElem_mem _)
      have hq' := (List.getElem?_eq_some_iff.1 hq).1
      have hbound : j.toNat * i.size + q < vals.length := by
        rw [hlen]
        calc j.toNat * i.size + q < j.toNat * i.size + i.size := by omega
          _ = (j.toNat + 1) * i.size := by rw [Nat.add_mul, Nat.one_mul]
          _ ≤ rows.length * i.size := Nat.mul_le_mul_right _ (by omega)
      have h3 := hc (j.toNat * i.size + q) _ (List.getElem?_eq_getElem hbound)
      rw [Nat.add_assoc] at h2
      rw [h2] at h3
      cases h3
      exact hone _ (List.getElem_mem _)
  · rename_i id off len j hev hj
    rw [hev] at hv
    obtain ⟨k, hj'⟩ := asI_some hj hu
    obtain ⟨h0, h1, hK⟩ := hK
    unfold onO at hK
    split at hK
    · rename_i B hB
      obtain ⟨hsz, hK⟩ := hK
      simp only [VR] at hv
      cases hl : L id with
      | none => rw [H.mod id hl] at hB; cases hB
      | some l =>
        have hp := hv.1.2.2 l hl
        have hbr := H.blk id B l hB hl
        cases l with
        | none => obtain ⟨_, _, h2, _⟩ := hp; omega
        | «at» b sz cap =>
          obtain ⟨rfl, _⟩ := hbr
          obtain ⟨_, A, he, hA, hcap⟩ := hp
          rw [hA (.inl (by omega))] at he
          refine .of_value (v := .pointer (some ⟨b, off * B.sz + j.toNat * i.size, Option.none⟩)) (w' := w) (by simp [run _ _ _ _ _ _ he hj' h0 h1]) (Post.same H ?_ hK)
          simp only [VR]
          refine ⟨⟨hv.1.1, rfl, fun l' hl' => ?_⟩, trivial⟩
          rw [hl] at hl'; cases hl'
          simp [PtrAt, ← hsz, Nat.add_mul]
    · exact hK.elim
  · exact hK.elim

theorem ok_ixs {t : TypeId} {x y : Operand} {x' y' : Opd} (H : HRel base w0 w L N F [] h) (hs : SRel w L N s a.tmps) (hx : ∃ t, compX P t x = some x') (hy : ∃ t, compX P t y = some y')
    (ht : P.underlying t = some .string)
    (hK : aop P s h N K (.ixs x' y')) : Gives P (do pure (.value (← Instr.index t (a.eval x) (a.eval y)))) w (Post base w0 w L N K) := by
  obtain ⟨t1, hx⟩ := hx
  obtain ⟨t2, hy⟩ := hy
  have hv := compX_sound hx hs
  have hu := compX_sound hy hs
  simp only [aop] at hK
  split at hK
  · rename_i l j hev hj
    obtain ⟨k, hj'⟩ := asI_some hj hu
    obtain ⟨b, he, hb, hlim⟩ := VR_str hev hv
    obtain ⟨h0, h1, hK⟩ := hK
    have hlt : j.toNat < b.size := by rw [← ByteArray.size_data, ← Array.length_toList, hb]; omega
    have hget : b[j.toNat]? = some (l.getD j.toNat 0) := by
      rw [List.getD_eq_getElem?_getD, ← hb, Array.getElem?_toList]
      rw [getElem?_pos b j.toNat hlt]
      have h2 : j.toNat < b.data.size := by simpa using hlt
      rw [Array.getElem?_eq_getElem h2]; rfl
    refine .of_value (v := .int .u8 (l.getD j.toNat 0).toNat) (w' := w) ?_ (Post.same H (mk_int _ _) hK)
    simp [Instr.index, asIntOf, run_underlying ht, he, hj', h0, hget]
  · exact hK.elim

theorem ok_ext {x : Operand} {x' : Opd} {j : Nat} (H : HRel base w0 w L N F [] h) (hs : SRel w L N s a.tmps) (hx : ∃ t, compX P t x = some x')
    (hK : aop P s h N K (.ext x' j)) : Gives P (do pure (.value (← Instr.extract (a.eval x) j))) w (Post base w0 w L N K) := by
  obtain ⟨t, hx⟩ := hx
  have hv := compX_sound hx hs
  simp only [aop] at hK
  split at hK
  · rename_i vs hev
    rw [hev] at hv
    simp only [VR] at hv
    obtain ⟨us, he, hl⟩ := hv
    unfold onO at hK
    split at hK
    · rename_i y hy
      obtain ⟨v, hv', hr⟩ := VRl_get_nil hl hy
      rw [Array.getElem?_toList] at hv'
      refine .of_value (v := v) (w' := w) ?_ (Post.same H hr hK)
      simp [Instr.extract, he, hv']
    · exact hK.elim
  · exact hK.elim

theorem ok_un {t : TypeId} {op : UnOp} {x : Operand} {x' : Opd} (H : HRel base w0 w L N F [] h) (hs : SRel w L N s a.tmps) (hx : compX P t x = some x')
    (hK : aop P s h N K (.un op x')) : Gives P (do pure (.value (← Op.unary op (a.eval x)))) w (Post base w0 w L N K) := by
  have hv := compX_sound hx hs
  simp only [aop] at hK
  split at hK
  · rename_i b hev
    rw [VR_bool hev hv]
    exact .of_value (v := .bool (!b)) (w' := w) (by simp [Op.unary]) (Post.same H (mk_bool _) hK)
  · rename_i k n hev
    rw [VR_int hev hv]
    exact .of_value (v := .int k (k.wrap (0 - n))) (w' := w) (by simp [Op.unary, Op.intArith]) (Post.same H (mk_int _ _) hK)
  · exact hK.elim

theorem ok_cvi {src dst t : TypeId} {x : Operand} {x' : Opd} {k : IntKind} (H : HRel base w0 w L N F [] h) (hs : SRel w L N s a.tmps) (hx : compX P t x = some x')
    (h1 : ∃ d, P.underlying src = some d) (h2 : P.underlying dst = some (.int k))
    (hK : aop P s h N K (.cvi k x')) : Gives P (do pure (.value (← convert src dst (a.eval x)))) w (Post base w0 w L N K) := by
  have hv := compX_sound hx hs
  obtain ⟨d, h1⟩ := h1
  simp only [aop] at hK
  unfold onO at hK
  split at hK
  · rename_i n hn
    obtain ⟨k', he⟩ := asI_some hn hv
    rw [he]
    exact .of_value (v := .int k (k.wrap n)) (w' := w) (by simp [convert, run_underlying h1, run_underlying h2, Conv.intToInt]) (Post.same H (mk_int _ _) hK)
  · exact hK.elim

theorem ok_mkf {f : Fn} {fi ca : Array Operand} {fi' ca' : List Opd} (H : HRel base w0 w L N F [] h)
    (h1 : VRl w L N (fi'.map (ev s)) (fi.map a.eval).toList []) (h2 : VRl w L N (ca'.map (ev s)) (ca.map a.eval).toList [])
    (hK : aop P s h N K (.mkf f fi' ca')) : Gives P (do pure (.value (← Instr.makeFunc f (fi.map a.eval) (ca.map a.eval)))) w (Post base w0 w L N K) := by
  simp only [aop] at hK
  exact .of_value (v := .func f (fi.map a.eval) (ca.map a.eval)) (w' := w) (by simp [Instr.makeFunc]) (Post.same H (by simp only [VR]; exact ⟨⟨_, _, rfl, h1, h2⟩, trivial⟩) hK)

theorem ok_lens {t : TypeId} {x : Operand} {x' : Opd} {ty : TypeId} (H : HRel base w0 w L N F [] h) (hs : SRel w L N s a.tmps) (hx : ∃ t, compX P t x = some x')
    (ht : P.underlying t = some .string)
    (hK : aop P s h N K (.len true x')) : Gives P (do pure (.value (← Builtin.len_ #[t] ty #[a.eval x]))) w (Post base w0 w L N K) := by
  obtain ⟨t', hx⟩ := hx
  have hv := compX_sound hx hs
  simp only [aop] at hK
  split at hK
  · rename_i l _ hev
    obtain ⟨b, he, hb, hlim⟩ := VR_str hev hv
    refine .of_value (v := .int .i64 l.length) (w' := w) ?_ (Post.same H (mk_int _ _) (hK hlim))
    have : (b.size : Int) = l.length := by rw [← hb]; simp
    simp [Builtin.len_, run_underlying ht, he, goInt, this]
  · rename_i hb _; cases hb
  · rename_i hb _; cases hb
  · rename_i hb _; cases hb
  · exact hK.elim

theorem ok_lenl {t e : TypeId} {x : Operand} {x' : Opd} {ty : TypeId} (H : HRel base w0 w L N F [] h) (hs : SRel w L N s a.tmps) (hx : ∃ t, compX P t x = some x')
    (ht : P.underlying t = some (.slice e))
    (hK : aop P s h N K (.len false x')) : Gives P (do pure (.value (← Builtin.len_ #[t] ty #[a.eval x]))) w (Post base w0 w L N K) := by
  obtain ⟨t', hx⟩ := hx
  have hv := compX_sound hx hs
  have run : ∀ A n c, a.eval x = .slice A n c → (Builtin.len_ #[t] ty #[a.eval x]).run P w = .ok (.int .i64 n) w := fun A n c he => by
    simp [Builtin.len_, run_underlying ht, he, goInt]
  simp only [aop] at hK
  split at hK
  · rename_i hb _; cases hb
  · rename_i sz rows _ hev
    rw [hev] at hv
    simp only [VR] at hv
    obtain ⟨⟨A, cap, vals, he, ⟨hlim, _⟩, _⟩, _⟩ := hv
    exact .of_value (v := .int .i64 rows.length) (w' := w) (by simp [run _ _ _ he]) (Post.same H (mk_int _ _) (hK hlim))
  · rename_i id off len _ hev
    rw [hev] at hv
    obtain ⟨hal, hK⟩ := hK
    simp only [VR] at hv
    cases hl : L id with
    | none => rw [H.mod id hl] at hal; cases hal
    | some l =>
      have hp := hv.1.2.2 l hl
      cases l with
      | none =>
        obtain ⟨hlim, _, _, he⟩ := hp
        have : len = 0 := by assumption
        subst this
        exact .of_value (v := .int .i64 (0 : Nat)) (w' := w) (by simp [run _ _ _ he]) (Post.same H (mk_int _ _) (hK hlim))
      | «at» b sz cap =>
        obtain ⟨hlim, A, he, _⟩ := hp
        exact .of_value (v := .int .i64 len) (w' := w) (by simp [run _ _ _ he]) (Post.same H (mk_int _ _) (hK hlim))
  · rename_i sz _ hev
    rw [hev] at hv
    simp only [VR] at hv
    exact .of_value (v := .int .i64 0) (w' := w) (by simp [run _ _ _ hv.1]) (Post.same H (mk_int _ _) hK)
  · exact hK.elim

theorem lowOf_sound {d : Int} {o : Option Operand} {o' : Option Opd} {n : Int} (hs : SRel w L N s a.tmps) (ho : match o, o' with | some x, some x' => ∃ t, compX P t x = some x' | Option.none, Option.none => True | _, _ => False)
    (hn : lowOf s d o' = some n) : (o = Option.none ∧ n = d) ∨ ∃ x k, o = some x ∧ a.eval x = .int k n := by
  cases o with
  | none =>
    cases o' with
    | none => simp only [lowOf, Option.some.injEq] at hn; exact .inl ⟨rfl, hn.symm⟩
    | some => exact ho.elim
  | some x =>
    cases o' with
    | none => exact ho.elim
    | some x' =>
      obtain ⟨t, hx⟩ := ho
      obtain ⟨k, hk⟩ := asI_some hn (compX_sound hx hs)
      exact .inr ⟨x, k, rfl, hk⟩

theorem run_bounds {isS : Bool} {len cap : Nat} {lo hi : Option Operand} {a' b' : Int} (hlo : (lo = Option.none ∧ a' = 0) ∨ ∃ x k, lo = some x ∧ a.eval x = .int k a')
    (hhi : (hi = Option.none ∧ b' = len) ∨ ∃ x k, hi = some x ∧ a.eval x = .int k b') (h0 : 0 ≤ a') (h1 : a' ≤ b') (h2 : b' ≤ len) (h3 : len ≤ cap) (w : World) :
    (Instr.sliceBounds isS len cap (lo.map a.eval) (hi.map a.eval) Option.none).run P w = .ok (a'.toNat, b'.toNat, cap) w := by
  have e1 : ∀ (x : Value) (k : IntKind) (j : Int) (y : Nat) (c : BoundsCode), x = .int k j → 0 ≤ j → j ≤ y → (Instr.sliceBound x y c).run P w = .ok j.toNat w := fun x k j y c hx g0 g1 => by
    subst hx; simp [Instr.sliceBound, asIntOf, g0, g1]
  have hb2 : b' ≤ (cap : Int) := by omega
  have hb3 : a' ≤ (b'.toNat : Int) := by omega
  rcases hhi with ⟨rfl, rfl⟩ | ⟨y, k, rfl, hy⟩
  · rcases hlo with ⟨rfl, rfl⟩ | ⟨x, k', rfl, hx⟩
    · simp [Instr.sliceBounds]
    · simp [Instr.sliceBounds, e1 _ _ _ _ _ hx h0 (show a' ≤ (len : Int) by omega)]
  · rcases hlo with ⟨rfl, rfl⟩ | ⟨x, k', rfl, hx⟩
    · simp [Instr.sliceBounds, e1 _ _ _ _ _ hy (by omega) hb2]
    · simp [Instr.sliceBounds, e1 _ _ _ _ _ hy (by omega) hb2, e1 _ _ _ _ _ hx h0 hb3]

theorem ok_slcs {t : TypeId} {x : Operand} {x' : Opd} {lo hi : Option Operand} {lo' hi' : Option Opd} (H : HRel base w0 w L N F [] h) (hs : SRel w L N s a.tmps) (hx : ∃ t, compX P t x = some x')
    (hlo : match lo, lo' with | some x, some x' => ∃ t, compX P t x = some x' | Option.none, Option.none => True | _, _ => False)
    (hhi : match hi, hi' with | some x, some x' => ∃ t, compX P t x = some x' | Option.none, Option.none => True | _, _ => False)
    (ht : P.underlying t = some .string)
    {sz : Nat} (hK : aop P s h N K (.slc true sz x' lo' hi')) : Gives P (do pure (.value (← Instr.sliceAt t (a.eval x) (lo.map a.eval) (hi.map a.eval) Option.none))) w (Post base w0 w L N K) := by
  obtain ⟨t', hx⟩ := hx
  have hv := compX_sound hx hs
  simp only [aop] at hK
  split at hK
  · rename_i l _ hev
    obtain ⟨b, he, hb, hlim⟩ := VR_str hev hv
    unfold onO at hK
    split at hK
    · rename_i a' ha
      split at hK
      · rename_i b' hb'
        obtain ⟨h0, h1, h2, hK⟩ := hK
        have hsz : b.size = l.length := by rw [← hb]; simp
        have r := run_bounds (P := P) (a := a) (isS := false) (len := b.size) (cap := b.size) (lowOf_sound hs hlo ha) (by rw [hsz]; exact lowOf_sound hs hhi hb') h0 h1 (by rw [hsz]; exact h2) (Nat.le_refl _) w
        refine .of_value (v := .string (b.extract a'.toNat b'.toNat)) (w' := w) ?_ (Post.same H (mk_str ?_ ?_) hK)
        · simp [Instr.sliceAt, Instr.slice, run_underlying ht, he, r]
        · rw [ByteArray.data_extract, Array.toList_extract, hb, List.extract_eq_take_drop, List.drop_take]
        · simp only [List.length_drop, List.length_take]; omega
      · exact hK.elim
    · exact hK.elim
  · rename_i hb _; cases hb
  · rename_i hb _; cases hb
  · rename_i hb _; cases hb
  · exact hK.elim

end

end Go.Proofs.Ytlefdibgonpoaaa
