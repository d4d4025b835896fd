/- Lists of operations, abstractly. -/
import Derived.Test.YtlefdibgonpoaaaR19
import Derived.Deep.LoopGhost
namespace Go.Proofs.Ytlefdibgonpoaaa
open Go Go.RowKit

structure AO where
  d : Option Nat
  op : AOp
  g : Option (Nat × Bool)

abbrev Env := Nat → AV

def setO (s : Env) (d : Option Nat) (r : AV) : Env := match d with | some d => upd s d r | Option.none => s

def awpO (P : Program) : List AO → Env → Heap → Nat → (Env → Heap → Nat → Prop) → Prop
  | [], s, h, n, K => K s h n
  | o :: os, s, h, n, K => match o.g with
    | Option.none => aop P s h n (fun r h' n' => awpO P os (setO s o.d r) h' n' K) o.op
    | some (j, want) => match s j with
      | .bool b => (b = want → aop P (upd s j (.bool want)) h n (fun r h' n' => awpO P os (setO (upd s j (.bool want)) o.d r) h' n' K) o.op) ∧
          (b = !want → awpO P os (setO (upd s j (.bool (!want))) o.d (.tup [])) h n K)
      | .tup [] => awpO P os (setO s o.d (.tup [])) h n K
      | _ => False

/-! The model's code, read as abstract code. -/
def compO (P : Program) (nt : Nat) (ops : Array Oper) (o : Oper) : Option AO :=
  match o.dst with
  | some d => if d < nt then (match o.guard with
    | Option.none => (compOp P o).map fun a => ⟨some d, a, Option.none⟩
    | some (j, want) => match (ops[j]?).bind (·.dst) with
      | some q => if q < nt then (compOp P o).map fun a => ⟨some d, a, some (q, want)⟩ else Option.none
      | Option.none => Option.none) else Option.none
  | Option.none => match o.guard with
    | Option.none => (compOp P o).map fun a => ⟨Option.none, a, Option.none⟩
    | some (j, want) => match (ops[j]?).bind (·.dst) with
      | some q => if q < nt then (compOp P o).map fun a => ⟨Option.none, a, some (q, want)⟩ else Option.none
      | Option.none => Option.none

/-- What holds between an abstract state and the model's, within one call; w1, L1, n1: as the call began. -/
def Rel (base : Nat) (w0 w1 : World) (L1 : Nat → Option Loc) (n1 nt : Nat) (s : Env) (h : Heap) (n : Nat) (a : Act) (w : World) : Prop :=
  a.defers = [] ∧ a.tmps.size = nt ∧ ∃ L F, HRel base w0 w L n F [] h ∧ SRel w L n s a.tmps ∧ Ext w1 L1 n1 w L n

theorem SRel.put {w : World} {L : Nat → Option Loc} {N : Nat} {s : Env} {a : Act} {d : Option Nat} {r : AV} {v : Value} (hs : SRel w L N s a.tmps) (hr : VR w L N r v []) (hd : ∀ i, d = some i → i < a.tmps.size) :
    SRel w L N (setO s d r) (a.put d v).tmps := by
  cases d with
  | none => exact hs
  | some d =>
    intro i
    simp only [setO, Act.put, upd]
    split
    · rename_i hi
      subst hi
      have : (a.tmps.setIfInBounds i v).getD i undef = v := by
        have hlt := hd i rfl
        simp [Array.getD, hlt]
      rw [this]; exact hr
    · rename_i hi
      have : (a.tmps.setIfInBounds d v).getD i undef = a.tmps.getD i undef := by
        simp only [Array.getD_eq_getD_getElem?]
        rw [Array.getElem?_setIfInBounds_ne (by omega)]
      rw [this]; exact hs i

theorem put_size (a : Act) (d : Option Nat) (v : Value) : (a.put d v).tmps.size = a.tmps.size := by cases d <;> simp [Act.put]
theorem put_defers (a : Act) (d : Option Nat) (v : Value) : (a.put d v).defers = a.defers := by cases d <;> simp [Act.put]

/-- A slot that is known to hold a bool. -/
theorem SRel.bool {w : World} {L : Nat → Option Loc} {N : Nat} {s : Env} {tmps : Array Value} {j : Nat} {b c : Bool} (hs : SRel w L N s tmps) (hj : s j = .bool b) (hb : b = c) : SRel w L N (upd s j (.bool c)) tmps := by
  intro i
  simp only [upd]
  split
  · rename_i hi; subst hi; have := hs i; rw [hj, hb] at this; exact this
  · exact hs i

section
variable {P : Program} {base : Nat} {w0 w1 : World} {L1 : Nat → Option Loc} {n1 nt : Nat}

theorem awpO_sound (ops : Array Oper) : ∀ (l : List Oper) (os : List AO), l.mapM (compO P nt ops) = some os → ∀ (s : Env) (h : Heap) (n : Nat) (K : Env → Heap → Nat → Prop) (a : Act) (w : World) (Q : Exit → Act → World → Prop),
    Rel base w0 w1 L1 n1 nt s h n a w → awpO P os s h n K → (∀ s h n a w, Rel base w0 w1 L1 n1 nt s h n a w → K s h n → Q .normal a w) → wpList P ops Q l a w := by
  intro l
  induction l with
  | nil =>
    intro os hc s h n K a w Q hr hK hQ
    simp at hc; subst hc
    exact wpList_nil (hQ _ _ _ _ _ hr hK)
  | cons o l ih =>
    intro os hc s h n K a w Q hr hK hQ
    rw [List.mapM_cons] at hc
    simp only [Option.bind_eq_bind, Option.bind_eq_some_iff, Option.pure_def, Option.some.injEq] at hc
    obtain ⟨ao, hao, os', hos, rfl⟩ := hc
    obtain ⟨hdf, hsz, L, F, H, hs, he⟩ := hr
    -- one operation that is carried out
    have step : ∀ (s' : Env) (aop' : AOp), compOp P o = some aop' → SRel w L n s' a.tmps → (∀ i, o.dst = some i → i < nt) →
        aop P s' h n (fun r h' n' => awpO P os' (setO s' o.dst r) h' n' K) aop' → o.wp P a w (wpList P ops Q l) Q := fun s' aop' hco hs' hd hK' => by
      refine (compOp_sound hco H hs' hK').wp fun v w' hp => ?_
      obtain ⟨r, L', N', F', h', g1, g2, g3, g4⟩ := hp
      refine ih os' hos _ _ _ _ _ _ _ ⟨by rw [put_defers, hdf], by rw [put_size, hsz], L', F', g1, (hs'.ext g2).put g3 (fun i hi => by rw [hsz]; exact hd i hi), he.trans g2⟩ g4 hQ
    have skip : ∀ (s' : Env), SRel w L n s' a.tmps → (∀ i, o.dst = some i → i < nt) → awpO P os' (setO s' o.dst (.tup [])) h n K → wpList P ops Q l (a.put o.dst undef) w := fun s' hs' hd hK' =>
      ih os' hos _ _ _ _ _ _ _ ⟨by rw [put_defers, hdf], by rw [put_size, hsz], L, F, H, hs'.put (by simp [VR, VRl, undef]) (fun i hi => by rw [hsz]; exact hd i hi), he⟩ hK' hQ
    have key : ∃ aop', compOp P o = some aop' ∧ ao.d = o.dst ∧ ao.op = aop' ∧ (∀ i, o.dst = some i → i < nt) ∧
        ((o.guard = Option.none ∧ ao.g = Option.none) ∨ ∃ j want q, o.guard = some (j, want) ∧ (ops[j]?).bind (·.dst) = some q ∧ q < nt ∧ ao.g = some (q, want)) := by
      unfold compO at hao
      split at hao
      · rename_i d hd
        split at hao
        · rename_i hlt
          split at hao
          · rename_i hg
            simp only [Option.map_eq_some_iff] at hao
            obtain ⟨x, hx, rfl⟩ := hao
            exact ⟨x, hx, hd.symm, rfl, (fun i hi => by rw [hd] at hi; cases hi; exact hlt), .inl ⟨hg, rfl⟩⟩
          · rename_i j want hg
            split at hao
            · rename_i q hq
              split at hao
              · rename_i hqlt
                simp only [Option.map_eq_some_iff] at hao
                obtain ⟨x, hx, rfl⟩ := hao
                exact ⟨x, hx, hd.symm, rfl, (fun i hi => by rw [hd] at hi; cases hi; exact hlt), .inr ⟨j, want, q, hg, hq, hqlt, rfl⟩⟩
              · cases hao
            · cases hao
        · cases hao
      · rename_i hd
        split at hao
        · rename_i hg
          simp only [Option.map_eq_some_iff] at hao
          obtain ⟨x, hx, rfl⟩ := hao
          exact ⟨x, hx, hd.symm, rfl, (fun i hi => by rw [hd] at hi; cases hi), .inl ⟨hg, rfl⟩⟩
        · rename_i j want hg
          split at hao
          · rename_i q hq
            split at hao
            · rename_i hqlt
              simp only [Option.map_eq_some_iff] at hao
              obtain ⟨x, hx, rfl⟩ := hao
              exact ⟨x, hx, hd.symm, rfl, (fun i hi => by rw [hd] at hi; cases hi), .inr ⟨j, want, q, hg, hq, hqlt, rfl⟩⟩
            · cases hao
          · cases hao
    obtain ⟨aop', hco, hd1, hop, hdlt, hg⟩ := key
    unfold awpO at hK
    unfold wpList
    rcases hg with ⟨hg, hg'⟩ | ⟨j, want, q, hg, hq, hqlt, hg'⟩
    · rw [hg'] at hK
      simp only [hd1, hop] at hK
      rw [if_pos (by simp [Region.wanted, hg])]
      exact .inl (step s aop' hco hs hdlt hK)
    · rw [hg'] at hK
      simp only [hd1, hop] at hK
      have hyield : ∀ v, a.tmps.getD q undef = v → yielded ops a.tmps j = match v with | .bool b => some b | _ => Option.none := fun v hv => by
        have hlt : q < a.tmps.size := by rw [hsz]; exact hqlt
        have hv' : a.tmps[q]? = some v := by rw [← hv]; simp [Array.getD, hlt]
        have : ((ops[j]?).bind (·.dst)).bind (a.tmps[·]?) = some v := by rw [hq]; exact hv'
        unfold yielded
        rw [this]
        cases v <;> rfl
      split at hK
      · rename_i b hb
        have hv := hs q
        rw [hb] at hv
        simp only [VR] at hv
        have hy := hyield _ hv.1
        simp only at hy
        have hwant : Region.wanted o (yielded ops a.tmps) = (b == want) := by simp [Region.wanted, hg, hy]
        rw [hwant]
        by_cases hbw : b = want
        · rw [if_pos (by simp [hbw])]
          exact .inl (step _ aop' hco (hs.bool hb hbw) hdlt (hK.1 hbw))
        · rw [if_neg (by simp [hbw])]
          have hbn : b = !want := by cases b <;> cases want <;> simp at hbw ⊢
          exact skip _ (hs.bool hb hbn) hdlt (hK.2 hbn)
      · rename_i hb
        have hv := hs q
        rw [hb] at hv
        simp only [VR, VRl] at hv
        obtain ⟨vs, hv, hvs, _⟩ := hv
        have hy := hyield _ hv
        simp only at hy
        rw [if_neg (by simp [Region.wanted, hg, hy])]
        exact skip _ hs hdlt hK
      · exact hK.elim
end

end Go.Proofs.Ytlefdibgonpoaaa
