/- Each operation of the model that is read as an abstract one does what that one says. -/
import Derived.Test.YtlefdibgonpoaaaR7
namespace Go.Proofs.Ytlefdibgonpoaaa
open Go Go.RowKit

def SRel (w : World) (L : Nat → Option Loc) (N : Nat) (s : Nat → AV) (tmps : Array Value) : Prop := ∀ i, VR w L N (s i) (tmps.getD i undef) []

theorem SRel.ext {w w' : World} {L L' : Nat → Option Loc} {N N' : Nat} {s : Nat → AV} {tmps : Array Value} (e : Ext w L N w' L' N') (h : SRel w L N s tmps) : SRel w' L' N' s tmps :=
  fun i => VR_ext e _ _ _ (h i)

/-- What an operation's run gives: a value and a world of which Φ holds. -/
def Gives (P : Program) (m : Sem Next) (w : World) (Φ : Value → World → Prop) : Prop :=
  match m.run P w with
  | .ok (.value v) w' => Φ v w'
  | .ok .skip w' => Φ undef w'
  | .ok (.enter f args) w' => Calls P f args w' fun e w'' => ∃ v, e = .returned v ∧ Φ v w''
  | _ => False

theorem Gives.wp {P : Program} {o : Oper} {a : Act} {w : World} {next : Act → World → Prop} {Q : Exit → Act → World → Prop} {Φ : Value → World → Prop}
    (h : Gives P (execOp a.eval o) w Φ) (hn : ∀ v w', Φ v w' → next (a.put o.dst v) w') : o.wp P a w next Q := by
  unfold Oper.wp Oper.upon
  unfold Gives at h
  split at h
  · rename_i heq; rw [heq]; exact hn _ _ h
  · rename_i heq; rw [heq]; exact hn _ _ h
  · rename_i heq; rw [heq]
    refine h.mono fun e w' he => ?_
    obtain ⟨v, rfl, hv⟩ := he
    exact hn _ _ hv
  · exact h.elim

theorem Gives.of_value {P : Program} {m : Sem Next} {w w' : World} {v : Value} {Φ : Value → World → Prop} (h : m.run P w = .ok (.value v) w') (hΦ : Φ v w') : Gives P m w Φ := by
  unfold Gives; rw [h]; exact hΦ
theorem Gives.of_skip {P : Program} {m : Sem Next} {w w' : World} {Φ : Value → World → Prop} (h : m.run P w = .ok .skip w') (hΦ : Φ undef w') : Gives P m w Φ := by
  unfold Gives; rw [h]; exact hΦ

/-- What is known behind an operation. -/
def Post (base : Nat) (w0 w : World) (L : Nat → Option Loc) (N : Nat) (K : AV → Heap → Nat → Prop) (v : Value) (w' : World) : Prop :=
  ∃ (r : AV) (L' : Nat → Option Loc) (N' : Nat) (F' : Nat → List Nat) (h' : Heap), HRel base w0 w' L' N' F' [] h' ∧ Ext w L N w' L' N' ∧ VR w' L' N' r v [] ∧ K r h' N'

theorem Post.same {base : Nat} {w0 w : World} {L : Nat → Option Loc} {N : Nat} {F : Nat → List Nat} {h : Heap} {K : AV → Heap → Nat → Prop} {v : Value} {r : AV}
    (H : HRel base w0 w L N F [] h) (hv : VR w L N r v []) (hK : K r h N) : Post base w0 w L N K v w := ⟨r, L, N, F, h, H, Ext.refl _ _ _, hv, hK⟩

/-! Constants, and zero values. -/
def matchV : AV → Value → Bool
  | .int k n, .int k' n' => k == k' && n == n'
  | .bool b, .bool b' => b == b'
  | .str s, .string b => b.data.toList == s && decide (s.length ≤ LIM)
  | .nil _, .slice Option.none 0 0 => true
  | .nilp, .pointer Option.none => true
  | .tup [], .tuple vs => vs.isEmpty
  | .undef, v => v.oneCell'
  | _, _ => false

def matchL : List AV → List Value → Bool
  | [], [] => true
  | a :: as, v :: vs => matchV a v && v.oneCell' && matchL as vs
  | _, _ => false

theorem VR_matchV {w : World} {L : Nat → Option Loc} {N : Nat} {a : AV} {v : Value} (h : matchV a v = true) : VR w L N a v [] := by
  unfold matchV at h
  split at h
  · simp only [Bool.and_eq_true, beq_iff_eq] at h; obtain ⟨rfl, rfl⟩ := h; simp [VR]
  · simp only [beq_iff_eq] at h; subst h; simp [VR]
  · simp only [Bool.and_eq_true, beq_iff_eq, decide_eq_true_eq] at h; simp only [VR]; exact ⟨⟨_, rfl, h.1, h.2⟩, trivial⟩
  · simp [VR]
  · simp [VR]
  · rename_i vs; have : vs = #[] := by simpa using h
    subst this; simp [VR, VRl]
  · simp [VR]
  · cases h

theorem VRl_matchL {w : World} {L : Nat → Option Loc} {N : Nat} : ∀ {as : List AV} {vs : List Value}, matchL as vs = true → VRl w L N as vs [] ∧ one vs
  | [], [], _ => ⟨⟨rfl, rfl⟩, by simp [one]⟩
  | a :: as, v :: vs, h => by
    simp only [matchL, Bool.and_eq_true] at h
    obtain ⟨h1, h2⟩ := VRl_matchL (w := w) (L := L) (N := N) h.2
    refine ⟨VRl_nil_cons.2 ⟨v, vs, rfl, VR_matchV h.1.1, h1⟩, ?_⟩
    intro u hu
    rcases List.mem_cons.1 hu with rfl | hu
    · exact h.1.2
    · exact h2 u hu
  | [], _ :: _, h => by simp [matchL] at h
  | _ :: _, [], h => by simp [matchL] at h

theorem oneCell_of_VR {w : World} {L : Nat → Option Loc} {N : Nat} {a : AV} {v : Value} {S : List Nat} (h : VR w L N a v S) (hc : isCell a = true) : v.oneCell' = true := by
  cases a <;> simp only [isCell, Bool.false_eq_true] at hc <;> simp only [VR] at h
  · rw [h.1]; rfl
  · rw [h.1]; rfl
  · obtain ⟨⟨b, rfl, _⟩, _⟩ := h; rfl
  · rw [h.1]; rfl
  · rw [h.1]; rfl
  · exact h.1.2.1
  · obtain ⟨⟨_, _, _, rfl, _⟩, _⟩ := h; rfl
  · exact h.1.2.1
  · obtain ⟨⟨_, _, _, rfl, _⟩, _⟩ := h; rfl
  · obtain ⟨_, ⟨rfl, _⟩ | ⟨_, _, _, _, _, _, _, rfl, _⟩⟩ := h <;> rfl
  · obtain ⟨⟨_, _, rfl, _⟩, _⟩ := h; rfl

theorem one_of_VRl {w : World} {L : Nat → Option Loc} {N : Nat} : ∀ {as : List AV} {vs : List Value} {S : List Nat}, VRl w L N as vs S → as.all isCell = true → one vs
  | [], vs, S, h, _ => by simp only [VRl] at h; rw [h.1]; simp [one]
  | a :: as, vs, S, h, hc => by
    simp only [VRl] at h
    obtain ⟨v, vs', S1, S2, rfl, rfl, h1, h2⟩ := h
    simp only [List.all_cons, Bool.and_eq_true] at hc
    intro u hu
    rcases List.mem_cons.1 hu with rfl | hu
    · exact oneCell_of_VR h1 hc.1
    · exact one_of_VRl h2 hc.2 u hu

/-- The cells of a value. -/
theorem VRl_cellsOf {w : World} {L : Nat → Option Loc} {N : Nat} {a : AV} {v : Value} {S : List Nat} (h : VR w L N a v S) (hc : (cellsOf a).all isCell = true) :
    VRl w L N (cellsOf a) v.cells.toList S ∧ one v.cells.toList := by
  cases a
  case agg cs =>
    simp only [VR] at h
    obtain ⟨vs, rfl, h⟩ := h
    exact ⟨h, one_of_VRl h hc⟩
  all_goals
    have hone := oneCell_of_VR h (by simpa [cellsOf] using hc)
    have hcell : v.cells = #[v] := by cases v <;> first | rfl | (simp [Value.oneCell'] at hone)
    simp only [cellsOf, hcell]
    refine ⟨⟨v, [], S, [], rfl, by simp, h, rfl, rfl⟩, by simp [one, hone]⟩

def constA (P : Program) (t : TypeId) (v : Value) : Option AV :=
  match v with
  | .int k n => some (.int k n)
  | .bool b => some (.bool b)
  | .string s => if s.data.toList.length ≤ LIM then some (.str s.data.toList) else Option.none
  | .slice Option.none 0 0 => match P.underlying t with
    | some (.slice e) => (P.info? e).map fun i => .nil i.size
    | _ => Option.none
  | .pointer Option.none => some .nilp
  | _ => Option.none

def compX (P : Program) (t : TypeId) : Operand → Option Opd
  | .tmp n => some (.t n)
  | .const v => (constA P t v).map .k
  | .func f => some (.k (.fn (.func f) [] []))
  | .global _ => Option.none

section
variable {P : Program} {base : Nat} {w0 w : World} {L : Nat → Option Loc} {N : Nat} {F : Nat → List Nat} {h : Heap} {s : Nat → AV} {a : Act} {K : AV → Heap → Nat → Prop}

theorem constA_sound {t : TypeId} {v : Value} {x : AV} (hc : constA P t v = some x) : VR w L N x v [] := by
  unfold constA at hc
  split at hc
  · cases hc; simp [VR]
  · cases hc; simp [VR]
  · split at hc
    · cases hc; simp only [VR]; exact ⟨⟨_, rfl, rfl, by assumption⟩, trivial⟩
    · cases hc
  · split at hc
    · simp only [Option.map_eq_some_iff] at hc; obtain ⟨i, _, rfl⟩ := hc; simp [VR]
    · cases hc
  · cases hc; simp [VR]
  · cases hc

theorem compX_sound {t : TypeId} {x : Operand} {y : Opd} (hc : compX P t x = some y) (hs : SRel w L N s a.tmps) : VR w L N (ev s y) (a.eval x) [] := by
  unfold compX at hc
  split at hc
  · cases hc; exact hs _
  · simp only [Option.map_eq_some_iff] at hc; obtain ⟨z, hz, rfl⟩ := hc; exact constA_sound hz
  · cases hc; simp only [ev, Act.eval, VR, VRl]; exact ⟨⟨_, _, rfl, by simp⟩, trivial⟩
  · cases hc

theorem ok_mv {t : TypeId} {x : Operand} {y : Opd} (H : HRel base w0 w L N F [] h) (hs : SRel w L N s a.tmps) (hc : compX P t x = some y) {m : Sem Next} (hm : m = pure (.value (a.eval x)))
    (hK : aop P s h N K (.mv y)) : Gives P m w (Post base w0 w L N K) := by
  subst hm
  exact .of_value rfl (Post.same H (compX_sound hc hs) hK)

theorem ok_pick {t : TypeId} {c x y : Operand} {c' x' y' : Opd} (H : HRel base w0 w L N F [] h) (hs : SRel w L N s a.tmps) (h1 : compX P t c = some c') (h2 : compX P t x = some x') (h3 : compX P t y = some y')
    (hK : aop P s h N K (.pick c' x' y')) : Gives P (do pure (.value (if ← asBool (a.eval c) then a.eval x else a.eval y))) w (Post base w0 w L N K) := by
  have hv := compX_sound h1 hs
  simp only [aop] at hK
  split at hK
  · rename_i b hb
    rw [hb] at hv
    simp only [VR] at hv
    rw [hv.1]
    cases b
    · exact .of_value (v := a.eval y) (w' := w) (by simp [asBool]) (Post.same H (compX_sound h3 hs) (hK.2 rfl))
    · exact .of_value (v := a.eval x) (w' := w) (by simp [asBool]) (Post.same H (compX_sound h2 hs) (hK.1 rfl))
  · exact hK.elim

end

end Go.Proofs.Ytlefdibgonpoaaa
