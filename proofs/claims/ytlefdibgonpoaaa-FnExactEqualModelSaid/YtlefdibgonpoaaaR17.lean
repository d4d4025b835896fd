/- make, string(bytes), append, calls. -/
import Derived.Test.YtlefdibgonpoaaaR16
import Derived.IntWalk
namespace Go.Proofs.Ytlefdibgonpoaaa
open Go Go.RowKit

theorem zeros_list (z : Array Value) (sz : Nat) (hz : z.size = sz) : ∀ c : Nat, ((Array.range (c * sz)).map fun x => z[x % z.size]!).toList = (List.replicate c z.toList).flatten := by
  intro c
  induction c with
  | zero => simp
  | succ c ih =>
    have e : (c + 1) * sz = c * sz + sz := by rw [Nat.add_mul, Nat.one_mul]
    rw [List.replicate_succ', List.flatten_append, ← ih, e]
    simp only [Array.toList_map, Array.toList_range, List.range_add, List.map_append, List.map_map, List.flatten_cons, List.flatten_nil, List.append_nil]
    congr 1
    apply List.ext_getElem
    · simp [hz]
    · intro j h1 h2
      simp at h1 h2
      simp only [List.getElem_map, List.getElem_range, Function.comp, hz, Nat.mul_add_mod_self_right, Array.getElem_toList]
      rw [Nat.mod_eq_of_lt (by omega)]
      simp [h2]

section
variable {P : Program} {base : Nat} {w0 w : World} {L : Nat → Option Loc} {N : Nat} {F : Nat → List Nat} {E : List Nat} {h : Heap} {s : Nat → AV} {a : Act} {K : AV → Heap → Nat → Prop}

theorem VRr_replicate {z : List AV} {vals : List Value} (hz : VRl w L N z vals []) : ∀ n : Nat, VRr w L N (List.replicate n z) (List.replicate n vals).flatten []
  | 0 => ⟨rfl, rfl⟩
  | n + 1 => by simp only [List.replicate_succ, List.flatten_cons, VRr]; exact ⟨_, _, [], [], rfl, rfl, hz, VRr_replicate hz n⟩

theorem ok_mks {t e : TypeId} {i : TypeInfo} {zv : Value} {z : List AV} {x y : Operand} {x' y' : Opd} (H : HRel base w0 w L N F [] h) (hs : SRel w L N s a.tmps) (hx : ∃ t, compX P t x = some x') (hy : ∃ t, compX P t y = some y')
    (ht : P.underlying t = some (.slice e)) (hi : P.info? e = some i) (hz : i.zero = some zv) (hm : matchL z zv.cells.toList = true) (hzl : z.length = i.size) (hpos : 0 < i.size) (hby : 0 < i.bytes)
    (hK : aop P s h N K (.mks i.bytes z x' y')) : Gives P (do pure (.value (← Instr.makeSlice t (a.eval x) (a.eval y)))) w (Post base w0 w L N K) := by
  obtain ⟨t1, hx⟩ := hx
  obtain ⟨t2, hy⟩ := hy
  simp only [aop] at hK
  unfold onO at hK
  split at hK
  · rename_i l hl
    split at hK
    · rename_i c hc
      obtain ⟨k1, e1⟩ := asI_some hl (compX_sound hx hs)
      obtain ⟨k2, e2⟩ := asI_some hc (compX_sound hy hs)
      obtain ⟨h0, h1, h2, hK⟩ := hK
      obtain ⟨hzv, hzone⟩ := VRl_matchL (w := w) (L := L) (N := 0) hm
      have hzs : zv.cells.size = i.size := by rw [← Array.length_toList, VRl_length hzv, hzl]
      have hcl : c ≤ LIM := by
        have : c * 1 ≤ c * i.bytes := Int.mul_le_mul_of_nonneg_left (by omega) (by omega)
        omega
      have hLIM : (LIM : Int) = 140737488355328 := rfl
      have wl : IntKind.i64.wrap l = l := IntWalk.i64_in l ⟨by omega, by omega⟩
      have wc : IntKind.i64.wrap c = c := IntWalk.i64_in c ⟨by omega, by omega⟩
      have hvals : ((Array.range (c.toNat * i.size)).map fun x => zv.cells[x % zv.cells.size]!).toList = (List.replicate l.toNat zv.cells.toList).flatten ++ (List.replicate (c.toNat - l.toNat) zv.cells.toList).flatten := by
        rw [zeros_list _ _ hzs, ← List.flatten_append, List.replicate_append_replicate]; congr 2; omega
      obtain ⟨L2, F2, m1, m2, m3⟩ := H.newRows (t := e) (rows := List.replicate l.toNat z) (sz := i.size) (cap := c.toNat) (vals := (List.replicate l.toNat zv.cells.toList).flatten) (rest := (List.replicate (c.toNat - l.toNat) zv.cells.toList).flatten)
        (VRr_replicate hzv _) (by
          intro v hv
          simp only [List.mem_flatten, List.mem_replicate] at hv
          obtain ⟨q, ⟨_, rfl⟩, hv⟩ := hv
          exact hzone v hv) hpos (by intro r hr; rw [(List.mem_replicate.1 hr).2]; exact hzl) (by simp; omega) (by simp; omega) (by simp only [maxLen]; omega) (by rw [← hvals]; simp)
      rw [← hvals, Array.toArray_toList] at m1 m2 m3
      rw [List.length_replicate] at m2
      refine .of_value (v := .slice (some ⟨w.heap.size, 0, Option.none⟩) l.toNat c.toNat) (w' := _) ?_ ⟨_, _, _, _, _, m1, m3, m2, by rw [hzl] at hK; exact hK⟩
      rw [e1, e2]
      have q1 : ¬ c < 0 := by omega
      have q2 : ¬ l < 0 := by omega
      have q3 : ¬ c < l := by omega
      have q4 : ¬ (281474976710656 < (i.bytes : Int) * c) := by rw [Int.mul_comm]; omega
      by_cases hc0 : c.toNat * i.size = 0
      · simp [Instr.makeSlice, run_underlying ht, asInt, asIntOf, typeInfo, hi, wl, wc, q1, q2, q3, q4, sizeOf, hc0, newRow, show Array.range 0 = (#[] : Array Nat) from rfl]
      · simp [Instr.makeSlice, run_underlying ht, asInt, asIntOf, typeInfo, hi, wl, wc, q1, q2, q3, q4, sizeOf, hc0, newRow, zeroValue, hz]
    · exact hK.elim
  · exact hK.elim

theorem bytes_vals : ∀ {rows : List (List AV)} {news : List Value} {S : List Nat} {l : List UInt8}, VRr w L N rows news S → bytesOf rows = some l → ∃ ns : List Int, news = ns.map (Value.int .u8) ∧ l = ns.map (fun n => UInt8.ofNat n.toNat)
  | [], news, S, l, hv, hb => by
    simp only [VRr] at hv; simp only [bytesOf, Option.some.injEq] at hb
    obtain ⟨rfl, rfl⟩ := hv; subst hb; exact ⟨[], rfl, rfl⟩
  | r :: rs, news, S, l, hv, hb => by
    simp only [VRr] at hv
    obtain ⟨v1, v2, S1, S2, rfl, rfl, h1, h2⟩ := hv
    unfold bytesOf at hb
    split at hb
    · rename_i heq; cases heq
    · rename_i n rs' heq
      cases heq
      simp only [Option.map_eq_some_iff] at hb
      obtain ⟨l', hb, rfl⟩ := hb
      obtain ⟨ns, rfl, rfl⟩ := bytes_vals h2 hb
      simp only [VRl, VR] at h1
      obtain ⟨v, vs', T1, T2, rfl, rfl, ⟨rfl, _⟩, rfl, _⟩ := h1
      exact ⟨n :: ns, rfl, rfl⟩
    · cases hb

theorem ok_cvb {src dst e t' : TypeId} {x : Operand} {x' : Opd} (H : HRel base w0 w L N F [] h) (hs : SRel w L N s a.tmps) (hx : compX P t' x = some x')
    (h1 : P.underlying src = some (.slice e)) (h2 : P.underlying dst = some .string) (h3 : P.underlying e = some (.int .u8))
    (hK : aop P s h N K (.cvb x')) : Gives P (do pure (.value (← convert src dst (a.eval x)))) w (Post base w0 w L N K) := by
  have hv := compX_sound hx hs
  simp only [aop] at hK
  unfold onO at hK
  split at hK
  · rename_i p hp
    split at hK
    · rename_i l hl
      obtain ⟨sz, rows, h'⟩ := p
      obtain ⟨F', S, A, c, news, g1, g2, g3, g4, g5, g6, g7⟩ := srcRows_sound H hv hp
      obtain ⟨ns, rfl, rfl⟩ := bytes_vals g3 hl
      have hlen : ns.length = rows.length := by
        clear g1 g4 g5 g6 g7 hK hp g2
        have : ∀ (rows : List (List AV)) (l : List UInt8), bytesOf rows = some l → l.length = rows.length := by
          intro rows
          induction rows with
          | nil => intro l h; simp only [bytesOf, Option.some.injEq] at h; subst h; rfl
          | cons r rs ih =>
            intro l h
            unfold bytesOf at h
            split at h
            · rename_i heq; cases heq
            · rename_i n rs' heq; cases heq
              simp only [Option.map_eq_some_iff] at h
              obtain ⟨l', h, rfl⟩ := h
              simp [ih l' h]
            · cases h
        simpa using this _ _ hl
      have hfin : VR w L N (.str (ns.map fun n => UInt8.ofNat n.toNat)) (.string (strOfNums ns)) [] := mk_str (strOfNums_data ns) (by rw [List.length_map, hlen]; exact g5)
      have hlc : ∀ A' : Addr, A = some A' → (loadCells A' rows.length).run P w = .ok (ns.map (Value.int .u8)).toArray w := by
        intro A' hA
        rcases g7 with rfl | ⟨b, o, hb, hc⟩
        · have : ns = [] := List.eq_nil_of_length_eq_zero (by simpa using hlen)
          subst this; rfl
        · rw [hA] at hb; cases hb
          have := run_loadCells_list (P := P) w ⟨b, o, Option.none⟩ (ns.map (Value.int .u8)) (fun j v hj => by rw [addr_add]; exact hc j v hj)
          rwa [List.length_map, hlen] at this
      have hstr : ns.foldl (fun r n => r.push (UInt8.ofNat n.toNat)) ByteArray.empty = strOfNums ns := by
        rw [foldl_push_bytes]; simp [strOfNums, ByteArray.empty, ByteArray.emptyWithCapacity]
        try rfl
      refine .of_value (v := .string (strOfNums ns)) (w' := w) ?_ (Post.same H hfin hK)
      rw [g2]
      cases A with
      | none =>
        have hr : rows = [] := by rcases g7 with h | ⟨b, o, hb, _⟩; exact h; cases hb
        have : ns = [] := List.eq_nil_of_length_eq_zero (by simpa [hr] using hlen)
        subst this
        simp only [Sem.run_bind, run_convert_bytes_nil w src e h1 h3 _ _ dst h2, Result.andThen_ok]; rfl
      | some A' =>
        simp only [Sem.run_bind, run_convert_bytes_string w src dst e _ _ _ h1 h3 h2, run_bytesToString w A' _ _ ns (hlc A' rfl), Result.andThen_ok, hstr]; rfl
    · exact hK.elim
  · exact hK.elim

/-- Calls. -/
theorem ok_call {ty : TypeId} {f : Operand} {f' : Opd} {c : Call} {xs : List Opd} (H : HRel base w0 w L N F [] h) (hs : SRel w L N s a.tmps) (hf : ∃ t, compX P t f = some f') (hc : c.callee = .value f)
    (hxs : VRl w L N (xs.map (ev s)) (c.args.map a.eval).toList [])
    (hK : aop P s h N K (.call f' xs)) : Gives P (do let d ← resolve a.eval c ty; invoke d.target d.args) w (Post base w0 w L N K) := by
  obtain ⟨t, hf⟩ := hf
  have hv := compX_sound hf hs
  simp only [aop] at hK
  split at hK
  · rename_i g fi ca hev
    rw [hev] at hv
    simp only [VR] at hv
    obtain ⟨⟨x, y, he, h1, h2⟩, _⟩ := hv
    obtain ⟨hcall, hK⟩ := hK
    unfold callable at hcall
    split at hcall
    · rename_i fn hfn
      simp only [Bool.and_eq_true, Bool.not_eq_true'] at hcall
      have hbody : fn.body.isNone = false := by cases hb : fn.body <;> simp [hb] at hcall ⊢
      have hn : fn.name ≠ "runtime.NumGoroutine" := by simpa using hcall.2
      have run : (do let d ← resolve a.eval c ty; invoke d.target d.args : Sem Next).run P w = .ok (.enter g (x ++ c.args.map a.eval ++ y)) w := by
        simp [resolve, hc, he, Deferred.ofValue, invoke, callFunc, hfn, hn]
        intro hb; rw [hb] at hbody; simp at hbody
      unfold Gives
      rw [run]
      have hall : VRl w L N (fi ++ xs.map (ev s) ++ ca) (x ++ c.args.map a.eval ++ y).toList [] := by
        rw [Array.toList_append, Array.toList_append]
        exact VRl_nil_append.2 ⟨_, _, rfl, VRl_nil_append.2 ⟨_, _, rfl, h1, hxs⟩, h2⟩
      have := hK base w0 w L F _ H hall
      rw [Array.toArray_toList] at this
      refine this.mono fun e w' he => ?_
      obtain ⟨v, r, L', n', F', h', rfl, k1, k2, k3, k4⟩ := he
      exact ⟨v, rfl, r, L', n', F', h', k1, k2, k3, k4⟩
    · cases hcall
  · exact hK.elim

end

end Go.Proofs.Ytlefdibgonpoaaa
