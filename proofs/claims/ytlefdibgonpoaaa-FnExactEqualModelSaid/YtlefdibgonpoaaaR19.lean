/- The model's operations, read as abstract ones. -/
import Derived.Test.YtlefdibgonpoaaaR18
namespace Go.Proofs.Ytlefdibgonpoaaa
open Go Go.RowKit

/-- The zero value's cells, by the type. -/
def zeroA (P : Program) : Nat → TypeId → Option (List AV)
  | 0, _ => Option.none
  | d + 1, t => match P.underlying t with
    | some .bool => some [.bool false]
    | some (.int k) => some [.int k 0]
    | some .string => some [.str []]
    | some (.slice e) => (P.info? e).map fun i => [.nil i.size]
    | some (.pointer _) => some [.nilp]
    | some (.struct fs) => (fs.toList.mapM fun f => zeroA P d f.type).map List.flatten
    | some (.func ..) => some [.undef]
    | _ => Option.none

/-- The zero value's cells, held against the model's own. -/
def zeroOf (P : Program) (t : TypeId) : Option (TypeInfo × Value × List AV) :=
  match P.info? t with
  | some i => match i.zero with
    | some v => match zeroA P 20 t with
      | some z => if matchL z v.cells.toList && decide (z.length = i.size) && decide (0 < i.size) then some (i, v, z) else Option.none
      | Option.none => Option.none
    | Option.none => Option.none
  | Option.none => Option.none

def compXs (P : Program) : List (TypeId × Operand) → Option (List Opd)
  | [] => some []
  | (t, x) :: xs => (compX P t x).bind fun y => (compXs P xs).map fun ys => y :: ys

def compLow (P : Program) : Option Operand → Option (Option Opd)
  | Option.none => some Option.none
  | some x => (compX P 0 x).map some

def compOp (P : Program) (o : Oper) : Option AOp :=
  match o.op with
  | .move x => (compX P o.type x).map .mv
  | .assign x => (compX P o.type x).map .mv
  | .pick c a b => (compX P o.type c).bind fun c => (compX P o.type a).bind fun a => (compX P o.type b).map fun b => .pick c a b
  | .alloc t => (zeroOf P t).map fun z => .box z.2.2
  | .box t x => (compX P t x).map .boxv
  | .build t parts => match P.underlying t with
    | some (.struct fs) => (zeroOf P t).bind fun z => if fs.toList.all (fun f => (P.info? f.type).isSome) then (parts.toList.mapM (compPart P fs)).map fun ps => .build z.2.2 ps else Option.none
    | _ => Option.none
  | .buildSlice t len parts => match P.underlying t with
    | some (.slice e) => (zeroOf P e).bind fun z => if len = parts.size ∧ parts.size * z.1.size ≤ 2 ^ 24 ∧ z.2.1.cells.size = z.1.size ∧ parts.toList.map (·.1) = List.range parts.size then
        (parts.toList.mapM (fun p => compX P e p.2)).map fun ps => .bsl z.1.size ps else Option.none
    | _ => Option.none
  | .load t x => match aggB P t, P.info? t with
    | some g, some i => (compX P 0 x).map fun y => .ld g i.size y
    | _, _ => Option.none
  | .store t x y => match P.info? t with
    | some i => (compX P 0 x).bind fun a => (compX P t y).map fun b => .st i.size a b
    | _ => Option.none
  | .nilCheck x => (compX P 0 x).map .nchk
  | .binOp op t x y u => (compX P t x).bind fun a => (compX P u y).bind fun b => match P.underlying t with
    | some .bool => if op = .eql then some (.beq false a b) else if op = .neq then some (.beq true a b) else Option.none
    | _ => some (.bin op a b)
  | .unOp op t x => (compX P t x).map fun y => .un op y
  | .convert src dst x => match P.underlying src, P.underlying dst with
    | some (.slice e), some .string => match P.underlying e with
      | some (.int .u8) => (compX P src x).map .cvb
      | _ => Option.none
    | some _, some (.int k) => (compX P src x).map fun y => .cvi k y
    | _, _ => Option.none
  | .makeFunc f fi ca => (compXs P (fi.toList.map fun x => (0, x))).bind fun a => (compXs P (ca.toList.map fun x => (0, x))).map fun b => .mkf f a b
  | .makeSlice t l c => match P.underlying t with
    | some (.slice e) => (zeroOf P e).bind fun z => if 0 < z.1.bytes then (compX P 0 l).bind fun a => (compX P 0 c).map fun b => .mks z.1.bytes z.2.2 a b else Option.none
    | _ => Option.none
  | .slice t x lo hi mx => if mx.isSome then Option.none else (compX P t x).bind fun a => (compLow P lo).bind fun l => (compLow P hi).bind fun r => match P.underlying t with
    | some .string => some (.slc true 0 a l r)
    | some (.slice e) => (P.info? e).map fun i => .slc false i.size a l r
    | _ => Option.none
  | .fieldAddr t x f => match P.underlying t with
    | some (.struct fs) => fs[f]?.bind fun fd => (P.info? fd.type).bind fun i => if i.size ≠ 0 then (compX P 0 x).map fun y => .fld fd.offset y else Option.none
    | _ => Option.none
  | .field t x f => match P.underlying t with
    | some (.struct fs) => fs[f]?.bind fun fd => (aggB P fd.type).bind fun g => (P.info? fd.type).bind fun i => (compX P 0 x).map fun y => .prt g fd.offset i.size y
    | _ => Option.none
  | .indexAddr t x y => match P.underlying t with
    | some (.slice e) => (P.info? e).bind fun i => (compX P t x).bind fun a => (compX P 0 y).map fun b => .ixa i.size a b
    | _ => Option.none
  | .index t x y => match P.underlying t with
    | some .string => (compX P t x).bind fun a => (compX P 0 y).map fun b => .ixs a b
    | _ => Option.none
  | .extract x j => (compX P 0 x).map fun y => .ext y j
  | .call c => match c.callee with
    | .value f => (compX P 0 f).bind fun g => (compXs P (c.argTypes.toList.zip c.args.toList)).bind fun xs => if c.argTypes.size = c.args.size then some (.call g xs) else Option.none
    | .builtin .len => match c.argTypes.toList, c.args.toList with
      | [t], [x] => match P.underlying t with
        | some .string => (compX P t x).map fun y => .len true y
        | some (.slice _) => (compX P t x).map fun y => .len false y
        | _ => Option.none
      | _, _ => Option.none
    | .builtin .append => match c.argTypes.toList, c.args.toList with
      | [t, u], [x, y] => match P.underlying t, P.underlying u with
        | some (.slice e), some (.slice _) => (zeroOf P e).bind fun z => if 0 < z.1.bytes ∧ z.2.1.cells.size = z.1.size then (compX P t x).bind fun a => (compX P u y).map fun b => .app z.1.bytes z.1.size a b else Option.none
        | _, _ => Option.none
      | _, _ => Option.none
    | .builtin .max => match c.args.toList with
      | [x, y] => (compX P o.type x).bind fun a => (compX P o.type y).map fun b => .mnx true a b
      | _ => Option.none
    | .builtin .min => match c.args.toList with
      | [x, y] => (compX P o.type x).bind fun a => (compX P o.type y).map fun b => .mnx false a b
      | _ => Option.none
    | _ => Option.none
  | _ => Option.none

section
variable {P : Program} {base : Nat} {w0 w : World} {L : Nat → Option Loc} {N : Nat} {F : Nat → List Nat} {h : Heap} {s : Nat → AV} {a : Act} {K : AV → Heap → Nat → Prop}

theorem zeroOf_some {t : TypeId} {i : TypeInfo} {v : Value} {z : List AV} (h : zeroOf P t = some (i, v, z)) :
    P.info? t = some i ∧ i.zero = some v ∧ matchL z v.cells.toList = true ∧ z.length = i.size ∧ 0 < i.size := by
  unfold zeroOf at h
  split at h
  · split at h
    · split at h
      · split at h
        · rename_i hc
          simp only [Option.some.injEq, Prod.mk.injEq] at h
          obtain ⟨rfl, rfl, rfl⟩ := h
          simp only [Bool.and_eq_true, decide_eq_true_eq] at hc
          exact ⟨by assumption, by assumption, hc.1.1, hc.1.2, hc.2⟩
        · cases h
      · cases h
    · cases h
  · cases h

theorem compXs_sound : ∀ {xs : List (TypeId × Operand)} {ys : List Opd}, compXs P xs = some ys → SRel w L N s a.tmps → VRl w L N (ys.map (ev s)) (xs.map fun p => a.eval p.2) []
  | [], ys, h, _ => by simp only [compXs, Option.some.injEq] at h; subst h; exact ⟨rfl, rfl⟩
  | (t, x) :: xs, ys, h, hs => by
    simp only [compXs, Option.bind_eq_some_iff, Option.map_eq_some_iff] at h
    obtain ⟨y, hy, ys', hys, rfl⟩ := h
    exact VRl_nil_cons.2 ⟨_, _, rfl, compX_sound hy hs, compXs_sound hys hs⟩

def LowOK (P : Program) (lo : Option Operand) (lo' : Option Opd) : Prop := match lo, lo' with | some x, some x' => ∃ t, compX P t x = some x' | Option.none, Option.none => True | _, _ => False

theorem compLow_some {lo : Option Operand} {lo' : Option Opd} (h : compLow P lo = some lo') : LowOK P lo lo' := by
  unfold compLow at h
  split at h
  · cases h; trivial
  · simp only [Option.map_eq_some_iff] at h; obtain ⟨y, hy, rfl⟩ := h; exact ⟨0, hy⟩

theorem compOp_sound {o : Oper} {ao : AOp} (hc : compOp P o = some ao) (H : HRel base w0 w L N F [] h) (hs : SRel w L N s a.tmps) (hK : aop P s h N K ao) : Gives P (execOp a.eval o) w (Post base w0 w L N K) := by
  unfold compOp at hc
  unfold execOp
  split at hc <;> rename_i heq <;> simp only [heq]
  · simp only [Option.map_eq_some_iff] at hc; obtain ⟨y, hy, rfl⟩ := hc; exact ok_mv H hs hy rfl hK
  · simp only [Option.map_eq_some_iff] at hc; obtain ⟨y, hy, rfl⟩ := hc; exact ok_mv H hs hy rfl hK
  · simp only [Option.map_eq_some_iff, Option.bind_eq_some_iff] at hc; obtain ⟨c, hc1, x, hx, y, hy, rfl⟩ := hc; exact ok_pick H hs hc1 hx hy hK
  · simp only [Option.map_eq_some_iff] at hc; obtain ⟨⟨i, v, z⟩, hz, rfl⟩ := hc
    obtain ⟨h1, h2, h3, h4, h5⟩ := zeroOf_some hz
    exact ok_box H h1 h2 h3 (by omega) hK
  · simp only [Option.map_eq_some_iff] at hc; obtain ⟨y, hy, rfl⟩ := hc; exact ok_boxv H hs hy hK
  · split at hc
    · rename_i fs hfs
      simp only [Option.bind_eq_some_iff] at hc
      obtain ⟨⟨i, v, z⟩, hz, hc⟩ := hc
      split at hc
      · rename_i hall
        simp only [Option.map_eq_some_iff] at hc
        obtain ⟨ps, hps, rfl⟩ := hc
        obtain ⟨h1, h2, h3, h4, h5⟩ := zeroOf_some hz
        exact ok_build H hs h1 h2 h3 hfs hall hps hK
      · cases hc
    · cases hc
  · split at hc
    · rename_i e he
      simp only [Option.bind_eq_some_iff] at hc
      obtain ⟨⟨i, v, z⟩, hz, hc⟩ := hc
      split at hc
      · rename_i hall
        simp only [Option.map_eq_some_iff] at hc
        obtain ⟨ps, hps, rfl⟩ := hc
        obtain ⟨h1, h2, h3, h4, h5⟩ := zeroOf_some hz
        obtain ⟨rfl, g2, g3, g4⟩ := hall
        exact ok_bsl H hs he h1 h2 h5 g2 g3 g4 hps hK
      · cases hc
    · cases hc
  · split at hc
    · rename_i g i hg hi
      simp only [Option.map_eq_some_iff] at hc
      obtain ⟨y, hy, rfl⟩ := hc
      exact ok_ld H hs ⟨_, hy⟩ hg hi rfl hK
    · cases hc
  · split at hc
    · rename_i i hi
      simp only [Option.map_eq_some_iff, Option.bind_eq_some_iff] at hc
      obtain ⟨x, hx, y, hy, rfl⟩ := hc
      exact ok_st H hs ⟨_, hx⟩ hy hi hK
    · cases hc
  · simp only [Option.map_eq_some_iff] at hc; obtain ⟨y, hy, rfl⟩ := hc
    exact ok_nchk H hs ⟨_, hy⟩ hK (fun b o he => by simp [he])
  · simp only [Option.bind_eq_some_iff] at hc
    obtain ⟨x, hx, y, hy, hc⟩ := hc
    split at hc
    · rename_i hb
      split at hc
      · rename_i hop; cases hc; exact ok_beq H hs hx hy hb (by simpa using hop) hK
      · split at hc
        · rename_i hop; cases hc; exact ok_beq H hs hx hy hb (by simpa using hop) hK
        · cases hc
    · cases hc; exact ok_bin H hs hx hy hK
  · simp only [Option.map_eq_some_iff] at hc; obtain ⟨y, hy, rfl⟩ := hc; exact ok_un H hs hy hK
  · split at hc
    · rename_i e he hd
      split at hc
      · rename_i hu
        simp only [Option.map_eq_some_iff] at hc; obtain ⟨y, hy, rfl⟩ := hc
        exact ok_cvb H hs hy he hd hu hK
      · cases hc
    · simp only [Option.map_eq_some_iff] at hc; obtain ⟨y, hy, rfl⟩ := hc
      exact ok_cvi H hs hy ⟨_, by assumption⟩ (by assumption) hK
    · cases hc
  · simp only [Option.map_eq_some_iff, Option.bind_eq_some_iff] at hc
    obtain ⟨x, hx, y, hy, rfl⟩ := hc
    refine ok_mkf H ?_ ?_ hK
    · have := compXs_sound (w := w) (L := L) (N := N) hx hs; simpa [List.map_map, Function.comp_def] using this
    · have := compXs_sound (w := w) (L := L) (N := N) hy hs; simpa [List.map_map, Function.comp_def] using this
  · split at hc
    · rename_i e he
      simp only [Option.bind_eq_some_iff] at hc
      obtain ⟨⟨i, v, z⟩, hz, hc⟩ := hc
      split at hc
      · rename_i hb
        simp only [Option.map_eq_some_iff, Option.bind_eq_some_iff] at hc
        obtain ⟨x, hx, y, hy, rfl⟩ := hc
        obtain ⟨h1, h2, h3, h4, h5⟩ := zeroOf_some hz
        exact ok_mks H hs ⟨_, hx⟩ ⟨_, hy⟩ he h1 h2 h3 h4 h5 hb hK
      · cases hc
    · cases hc
  · rename_i t x lo hi mx
    cases mx with
    | some m => simp at hc
    | none =>
      simp only [Option.isSome_none, Bool.false_eq_true, if_false, Option.bind_eq_some_iff] at hc
      obtain ⟨y, hy, l, hl, r, hr, hc⟩ := hc
      split at hc
      · rename_i ht; cases hc; exact ok_slcs H hs ⟨_, hy⟩ (compLow_some hl) (compLow_some hr) ht hK
      · rename_i e ht
        simp only [Option.map_eq_some_iff] at hc
        obtain ⟨i, hi, rfl⟩ := hc
        exact ok_slcl H hs ⟨_, hy⟩ (compLow_some hl) (compLow_some hr) ht hi hK
      · cases hc
  · split at hc
    · rename_i fs ht
      simp only [Option.bind_eq_some_iff] at hc
      obtain ⟨fd, hf, i, hi, hc⟩ := hc
      split at hc
      · rename_i hsz
        simp only [Option.map_eq_some_iff] at hc
        obtain ⟨y, hy, rfl⟩ := hc
        exact ok_fld H hs ⟨_, hy⟩ ht hf hi hsz hK
      · cases hc
    · cases hc
  · split at hc
    · rename_i fs ht
      simp only [Option.bind_eq_some_iff, Option.map_eq_some_iff] at hc
      obtain ⟨fd, hf, g, hg, i, hi, y, hy, rfl⟩ := hc
      exact ok_prt H hs ⟨_, hy⟩ ht hf hg hi hK
    · cases hc
  · split at hc
    · rename_i e ht
      simp only [Option.bind_eq_some_iff, Option.map_eq_some_iff] at hc
      obtain ⟨i, hi, x, hx, y, hy, rfl⟩ := hc
      exact ok_ixa H hs ⟨_, hx⟩ ⟨_, hy⟩ ht hi hK
    · cases hc
  · split at hc
    · rename_i ht
      simp only [Option.bind_eq_some_iff, Option.map_eq_some_iff] at hc
      obtain ⟨x, hx, y, hy, rfl⟩ := hc
      exact ok_ixs H hs ⟨_, hx⟩ ⟨_, hy⟩ ht hK
    · cases hc
  · simp only [Option.map_eq_some_iff] at hc
    obtain ⟨y, hy, rfl⟩ := hc
    exact ok_ext H hs ⟨_, hy⟩ hK
  · rename_i c
    split at hc
    · rename_i f hf
      simp only [Option.bind_eq_some_iff] at hc
      obtain ⟨g, hg, xs, hxs, hc⟩ := hc
      split at hc
      · rename_i hsz
        cases hc
        have := compXs_sound (w := w) (L := L) (N := N) hxs hs
        refine ok_call H hs ⟨_, hg⟩ hf ?_ hK
        have e : (c.argTypes.toList.zip c.args.toList).map (fun p => a.eval p.2) = (c.args.map a.eval).toList := by
          rw [show (fun p : TypeId × Operand => a.eval p.2) = a.eval ∘ (·.2) from rfl, ← List.map_map, List.map_snd_zip (by simp [hsz])]; simp
        rw [← e]; exact this
      · cases hc
    · rename_i hcal
      obtain ⟨cal, args, tys⟩ := c
      simp only at hcal hc
      subst hcal
      split at hc
      · rename_i t x hts has
        have hts : tys = #[t] := by apply Array.ext'; exact hts
        have has : args = #[x] := by apply Array.ext'; exact has
        subst hts has
        split at hc
        · rename_i ht
          simp only [Option.map_eq_some_iff] at hc
          obtain ⟨y, hy, rfl⟩ := hc
          have := ok_lens (ty := o.type) H hs ⟨_, hy⟩ ht hK
          simpa [resolve, invoke, builtin] using this
        · rename_i e ht
          simp only [Option.map_eq_some_iff] at hc
          obtain ⟨y, hy, rfl⟩ := hc
          have := ok_lenl (ty := o.type) H hs ⟨_, hy⟩ ht hK
          simpa [resolve, invoke, builtin] using this
        · cases hc
      · cases hc
    · rename_i hcal
      obtain ⟨cal, args, tys⟩ := c
      simp only at hcal hc
      subst hcal
      split at hc
      · rename_i t u x y hts has
        have hts : tys = #[t, u] := by apply Array.ext'; exact hts
        have has : args = #[x, y] := by apply Array.ext'; exact has
        subst hts has
        split at hc
        · rename_i e e' ht hu
          simp only [Option.bind_eq_some_iff] at hc
          obtain ⟨⟨i, v, z⟩, hz, hc⟩ := hc
          split at hc
          · rename_i hb
            simp only [Option.map_eq_some_iff, Option.bind_eq_some_iff] at hc
            obtain ⟨x', hx, y', hy, rfl⟩ := hc
            obtain ⟨h1, h2, h3, h4, h5⟩ := zeroOf_some hz
            have := ok_app (ty := o.type) H hs ⟨_, hx⟩ ⟨_, hy⟩ ht ⟨_, hu⟩ h1 h2 hb.2 h5 hb.1 hK
            simpa [resolve, invoke, builtin] using this
          · cases hc
        · cases hc
      · cases hc
    · rename_i hcal
      obtain ⟨cal, args, tys⟩ := c
      simp only at hcal hc
      subst hcal
      split at hc
      · rename_i x y has
        have has : args = #[x, y] := by apply Array.ext'; exact has
        subst has
        simp only [Option.map_eq_some_iff, Option.bind_eq_some_iff] at hc
        obtain ⟨x', hx, y', hy, rfl⟩ := hc
        have := ok_mnx (ts := tys) (ty := o.type) (b := true) H hs hx hy rfl hK
        simpa [resolve, invoke, builtin] using this
      · cases hc
    · rename_i hcal
      obtain ⟨cal, args, tys⟩ := c
      simp only at hcal hc
      subst hcal
      split at hc
      · rename_i x y has
        have has : args = #[x, y] := by apply Array.ext'; exact has
        subst has
        simp only [Option.map_eq_some_iff, Option.bind_eq_some_iff] at hc
        obtain ⟨x', hx, y', hy, rfl⟩ := hc
        have := ok_mnx (ts := tys) (ty := o.type) (b := false) H hs hx hy rfl hK
        simpa [resolve, invoke, builtin] using this
      · cases hc
    · cases hc
  · cases hc

end

end Go.Proofs.Ytlefdibgonpoaaa
