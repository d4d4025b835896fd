/- A law: its body's contract, and what its row says. -/
import Derived.Test.YtlefdibgonpoaaaR23
namespace Go.Proofs.Ytlefdibgonpoaaa
open Go Go.RowKit Go.ChangeShapes Go.WideShapes

/-- An argument of a type. -/
def ArgOf (P : Program) (f : Nat) (t : TypeId) (a : AV) : Prop := match P.underlying t with
  | some (.struct _) => ∃ row, a = .agg row ∧ Row P f t row
  | _ => Row P f t [a]

theorem All2_cons {α β : Type} {R : α → β → Prop} {a : α} {l : List α} {m : List β} (h : All2 R (a :: l) m) : ∃ x m', m = x :: m' ∧ R a x ∧ All2 R l m' := by
  cases m with
  | nil => exact h.elim
  | cons x m => exact ⟨x, m, rfl, h.1, h.2⟩
theorem All2_nil {α β : Type} {R : α → β → Prop} {m : List β} (h : All2 R [] m) : m = [] := by
  cases m with
  | nil => rfl
  | cons x m => exact h.elim
theorem Row_bool {P : Program} {f : Nat} {t : TypeId} {r : List AV} (hu : P.underlying t = some .bool) (h : Row P (f + 1) t r) : ∃ b, r = [.bool b] := by simpa only [Row, hu] using h
theorem Row_int {P : Program} {f : Nat} {t : TypeId} {r : List AV} {k : IntKind} (hu : P.underlying t = some (.int k)) (h : Row P (f + 1) t r) : ∃ n, r = [.int k n] ∧ (Lit.int k n).wf = true := by simpa only [Row, hu] using h
theorem Row_string {P : Program} {f : Nat} {t : TypeId} {r : List AV} (hu : P.underlying t = some .string) (h : Row P (f + 1) t r) : ∃ l : List UInt8, r = [.str l] ∧ l.length ≤ LIM := by simpa only [Row, hu] using h
theorem Row_slice {P : Program} {f : Nat} {t e : TypeId} {r : List AV} (hu : P.underlying t = some (.slice e)) (h : Row P (f + 1) t r) : ∃ rows : List (List AV), r = [.sl (P.cellsOf e) rows] ∧ rows.length ≤ LIM ∧ ∀ r ∈ rows, Row P f e r := by simpa only [Row, hu] using h
theorem Row_struct {P : Program} {f : Nat} {t : TypeId} {fs : Array Field} {r : List AV} (hu : P.underlying t = some (.struct fs)) (h : Row P (f + 1) t r) : ∃ parts : List (List AV), r = parts.flatten ∧ All2 (fun (x : Field) r => Row P f x.type r) fs.toList parts := by simpa only [Row, hu] using h
theorem ArgOf_struct {P : Program} {f : Nat} {t : TypeId} {fs : Array Field} {a : AV} (hu : P.underlying t = some (.struct fs)) (h : ArgOf P f t a) : ∃ row, a = .agg row ∧ Row P f t row := by simpa only [ArgOf, hu] using h
theorem ints_of {P : Program} {f : Nat} {t e : TypeId} {r : List AV} (hu : P.underlying t = some (.slice e)) (he : P.underlying e = some (.int .i64)) (hc : P.cellsOf e = 1) (h : Row P (f + 2) t r) : ∃ l, r = [ints l] := by
  obtain ⟨rows, rfl, _, hr⟩ := Row_slice hu h
  have : ∃ l, rows = intsR l := by
    clear h
    induction rows with
    | nil => exact ⟨[], rfl⟩
    | cons r rows ih =>
      obtain ⟨n, rfl, _⟩ := Row_int he (hr r List.mem_cons_self)
      obtain ⟨l, rfl⟩ := ih (by rename_i h2; simp only [List.length_cons] at h2; omega) fun r hr' => hr r (List.mem_cons_of_mem _ hr')
      exact ⟨n :: l, rfl⟩
  obtain ⟨l, rfl⟩ := this
  exact ⟨l, by rw [hc]; rfl⟩

section
variable {P : Program} {W : World} {H : Type} {enc : TypeId × Value → H}

theorem arg_of_trod {f : Nat} {t : TypeId} {v : Value} {d : DataW H} {ps : List MemPlace} {base : Nat} (hp : plain P f t = true) (hv : Value.okWide P W .any base t v) (h : DataW.Trod enc P W 0 (fun _ => true) true t v d ps)
    (hw : ∀ n ∈ d.weights P t, n ≤ reachBytes) : ∃ a, VR W Lo 0 a v [] ∧ ArgOf P f t a := by
  obtain ⟨fuel, h⟩ := h
  obtain ⟨row, h1, h2, h3, h4⟩ := row_of_trod P W f t hp fuel _ d ps h hw
  have key : (∀ fs, P.underlying t ≠ some (.struct fs)) → (∀ n e, P.underlying t ≠ some (.array n e)) → v.cells.toList = [v] ∨ ¬ (plain P f t = true) := fun n1 n2 => by
    left
    unfold Value.okWide at hv
    split at hv
    · rename_i hu; exact absurd hu (n1 _)
    · rename_i hu; exact absurd hu (n2 _ _)
    · cases v <;> try rfl
      rename_i cs
      exfalso
      unfold Cell.okWide at hv
      split at hv <;> simp_all
      unfold Cell.ok at hv
      split at hv <;> simp_all
  cases f with
  | zero => simp [plain] at hp
  | succ f =>
    unfold ArgOf
    split
    · rename_i fs hu
      unfold Value.okWide at hv
      rw [hu] at hv
      simp only at hv
      obtain ⟨cs, rfl, _⟩ := hv
      exact ⟨.agg row, by simp only [VR]; exact ⟨cs, rfl, h1⟩, row, rfl, h2⟩
    · rename_i hns
      have na : ∀ n e, P.underlying t ≠ some (.array n e) := fun n e hu => by simp [plain, hu] at hp
      rcases key hns na with hc | hc
      · rw [hc] at h1
        have hl : row.length = 1 := by have := VRl_length h1; simpa using this.symm
        match row, hl with
        | [a], _ =>
          obtain ⟨v', vs', e, g1, _⟩ := VRl_nil_cons.1 h1
          cases e
          exact ⟨a, g1, h2⟩
      · exact absurd hp hc

theorem args_of_trod {f : Nat} {base : Nat} : ∀ {ts : List TypeId} {vs : List Value} {ds : List (DataW H)} {ps : List MemPlace}, ts.all (fun t => plain P f t) = true → (∀ (j : Nat) t v, ts[j]? = some t → vs[j]? = some v → Value.okWide P W .any base t v) →
    DataW.TrodAll enc P W 0 (fun _ => true) true ts vs ds ps → (∀ n ∈ DataW.weightsEach P ts ds, n ≤ reachBytes) → ∃ xs, VRl W Lo 0 xs vs [] ∧ All2 (fun t a => ArgOf P f t a) ts xs
  | [], [], [], ps, _, _, _, _ => ⟨[], ⟨rfl, rfl⟩, trivial⟩
  | t :: ts, v :: vs, d :: ds, ps, hp, hv, h, hw => by
    obtain ⟨p, q, h1, h2, rfl⟩ := h
    simp only [List.all_cons, Bool.and_eq_true] at hp
    simp only [DataW.weightsEach, List.mem_append] at hw
    obtain ⟨a, g1, g2⟩ := arg_of_trod hp.1 (hv 0 t v rfl rfl) h1 (fun n hn => hw n (.inl hn))
    obtain ⟨xs, k1, k2⟩ := args_of_trod hp.2 (fun j t v ht hv' => hv (j + 1) t v (by simpa using ht) (by simpa using hv')) h2 (fun n hn => hw n (.inr hn))
    exact ⟨a :: xs, VRl_nil_cons.2 ⟨v, vs, rfl, g1, k1⟩, g2, k2⟩
  | [], _ :: _, _, _, _, _, h, _ => h.elim
  | [], [], _ :: _, _, _, _, h, _ => h.elim
  | _ :: _, [], _, _, _, _, h, _ => h.elim
  | _ :: _, _ :: _, [], _, _, _, h, _ => h.elim

theorem trodAll_below (hl : laidOutB P = true) {W' : World} (hb : Below W.heap.size W W') : ∀ {ts : List TypeId} {vs : List Value} {ds : List (DataW H)} {ps : List MemPlace}, ts.all (fun t => P.readableRec t && Nat.blt t P.types.size) = true →
    DataW.TrodAll enc P W 0 (fun _ => true) true ts vs ds ps → (∀ x ∈ ps, x.block < W.heap.size) → DataW.TrodAll enc P W' 0 (fun b => decide (b < W.heap.size)) true ts vs ds ps
  | [], [], [], _, _, h, _ => h
  | t :: ts, v :: vs, d :: ds, ps, hr, h, hlt => by
    obtain ⟨p, q, h1, h2, rfl⟩ := h
    simp only [List.all_cons, Bool.and_eq_true, Nat.blt_eq] at hr
    exact ⟨p, q, Below.trod hl hr.1.1 hr.1.2 h1 hb (fun x hx => hlt x (List.mem_append_left _ hx)), trodAll_below hl hb hr.2 h2 (fun x hx => hlt x (List.mem_append_right _ hx)), rfl⟩
  | [], _ :: _, _, _, _, h, _ => h.elim
  | [], [], _ :: _, _, _, h, _ => h.elim
  | _ :: _, [], _, _, _, h, _ => h.elim
  | _ :: _, _ :: _, [], _, _, h, _ => h.elim

theorem trodAll_length {base : Nat} {sp : Nat → Bool} {hd : Bool} : ∀ {ts : List TypeId} {vs : List Value} {ds : List (DataW H)} {ps : List MemPlace}, DataW.TrodAll enc P W base sp hd ts vs ds ps → ds.length = ts.length
  | [], [], [], _, _ => rfl
  | t :: ts, v :: vs, d :: ds, ps, h => by obtain ⟨p, q, _, h2, _⟩ := h; simp [trodAll_length h2]
  | [], _ :: _, _, _, h => h.elim
  | [], [], _ :: _, _, h => h.elim
  | _ :: _, [], _, _, h => h.elim
  | _ :: _, _ :: _, [], _, h => h.elim

/-- The contract of a law's row. -/
theorem law_contract {f : FuncId} {fn : Func} {s : ChangeSpec} {k : Nat} {tb : TypeId} {apart fresh handsOn : Bool} (hl : laidOutB P = true) (hres : fn.resultTypes = #[tb]) (hbool : P.underlying tb = some .bool)
    (hplain : fn.params.toList.all (fun t => plain P k t) = true) (hread : fn.params.toList.all (fun t => P.readableRec t && Nat.blt t P.types.size) = true) (hvars : s.vars = [])
    (hspec : ∀ (ds : List (DataW H)), ds.length = fn.params.toList.length → s.fn H ds = { results := [.lit (.bool true)], args := ds })
    (hlaw : ∀ xs, All2 (fun t a => ArgOf P k t a) fn.params.toList xs → Holds P f xs (fun r => r = .bool true)) (base : Nat) (args : Array Value) (ds gs : List (DataW H)) (before : List MemPlace)
    (hval : ∀ (j : Nat) t v, fn.params[j]? = some t → args[j]? = some v → Value.okWide P W .any base t v) (hW : DataW.Whole enc P fn.params.toList s.vars apart W args.toList ds gs before)
    (hsz : (DataW.weightsEach P (fn.params.toList ++ s.plain.varTypes P) (ds ++ gs)).all (· ≤ reachBytes) = true) :
    Calls P f args W fun e W' => ∃ v, e = .returned v ∧ s.post enc P fn apart fresh handsOn false W args v W' := by
  have hW' := hW
  obtain ⟨p, q, hA, hV, rfl, _, _⟩ := hW
  rw [hvars] at hV
  have hgs : gs = [] ∧ q = [] := by
    cases gs with
    | nil => exact ⟨rfl, hV⟩
    | cons => exact hV.elim
  obtain ⟨rfl, rfl⟩ := hgs
  have hvt : s.plain.varTypes P = [] := by simp [ChangeSpec.plain, DataSpec.varTypes, hvars]
  rw [hvt, List.append_nil, List.append_nil, List.all_eq_true] at hsz
  obtain ⟨xs, h1, h2⟩ := args_of_trod hplain (fun j t v ht hv => hval j t v (by simpa using ht) (by simpa using hv)) hA (fun n hn => by simpa using hsz n hn)
  have hc := (hlaw xs h2).2 W args.toList h1
  refine hc.mono fun e W' ⟨v, r, S, he, hr, _, hb, hv, _⟩ => ?_
  subst hr
  simp only [VR] at hv
  obtain ⟨rfl, _⟩ := hv
  have hlt : ∀ x ∈ p, x.block < W.heap.size := fun x hx => by simpa using hW'.lt x (List.mem_append_left _ hx)
  have hsp := hspec ds (trodAll_length hA)
  refine ⟨_, he, ds, [], p ++ [], [], p, [], hW', ?_, ?_, ?_, Below.frame hb _, fun h => by cases h⟩
  · rw [List.append_nil, hsp, hres]
    refine ⟨[], [], ?_, rfl, rfl⟩
    exact shut_bool hbool true
  · rw [List.append_nil, hsp]
    exact trodAll_below hl hb hread hA hlt
  · rw [List.append_nil, hsp, hvars]; exact rfl
end
end Go.Proofs.Ytlefdibgonpoaaa
