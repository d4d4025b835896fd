/- The code, abstractly. -/
import Derived.Test.YtlefdibgonpoaaaR20G
import Derived.Deep.LoopGhost
namespace Go.Proofs.Ytlefdibgonpoaaa
open Go Go.RowKit

inductive AC where
  | skip
  | reg (ops : List AO)
  | seq (a b : AC)
  | cond (c : Opd) (a b : AC)
  | blk (id : Nat) (a : AC)
  | loop (a : AC)
  | exit (id : Nat)
  | ret
  | draw (t : DT)

inductive AE where
  | normal
  | exit (id : Nat)
  | ret

/-- A loop, by what holds at its head, and a number that goes down. -/
def ALoop (F : Env → Heap → Nat → (AE → Env → Heap → Nat → Prop) → Prop) (s : Env) (h : Heap) (n : Nat) (Q : AE → Env → Heap → Nat → Prop) : Prop :=
  ∃ (I : Nat → Env → Heap → Nat → Prop), (∃ k, I k s h n) ∧ ∀ k s h n, I k s h n → F s h n fun e s' h' n' => match e with
    | .normal => ∃ k', k' < k ∧ I k' s' h' n'
    | e => Q e s' h' n'

def awp (P : Program) : AC → Env → Heap → Nat → (AE → Env → Heap → Nat → Prop) → Prop
  | .skip, s, h, n, Q => Q .normal s h n
  | .reg ops, s, h, n, Q => awpO P ops s h n (Q .normal)
  | .seq a b, s, h, n, Q => awp P a s h n fun e s' h' n' => match e with
    | .normal => awp P b s' h' n' Q
    | e => Q e s' h' n'
  | .cond c a b, s, h, n, Q => match ev s c with
    | .bool x => (x = true → awp P a s h n Q) ∧ (x = false → awp P b s h n Q)
    | _ => False
  | .blk id a, s, h, n, Q => awp P a s h n fun e s' h' n' => match e with
    | .exit id' => if id' = id then Q .normal s' h' n' else Q (.exit id') s' h' n'
    | e => Q e s' h' n'
  | .loop a, s, h, n, Q => ALoop (awp P a) s h n Q
  | .exit id, s, h, n, Q => Q (.exit id) s h n
  | .ret, s, h, n, Q => Q .ret s h n
  | .draw t, s, h, n, Q => awpD P t s h n (Q .normal)

def compC (P : Program) (nt : Nat) : Code → Option AC
  | .skip => some .skip
  | .region _ ops draw => if draw then (compD P nt ops).map .draw else (ops.toList.mapM (compO P nt ops)).map .reg
  | .seq a b => (compC P nt a).bind fun a' => (compC P nt b).map fun b' => .seq a' b'
  | .cond c a b => (compX P 0 c).bind fun c' => (compC P nt a).bind fun a' => (compC P nt b).map fun b' => .cond c' a' b'
  | .block id a => (compC P nt a).map (.blk id)
  | .loop a => (compC P nt a).map .loop
  | .exit id => some (.exit id)
  | .ret => some .ret
  | _ => Option.none

section
variable {P : Program} {base : Nat} {w0 w1 : World} {L1 : Nat → Option Loc} {n1 nt : Nat}

/-- How the abstract code ends, and how the model's does. -/
def Ends : AE → Exit → Prop
  | .normal, .normal => True
  | .exit i, .exit j => i = j
  | .ret, .ret => True
  | _, _ => False

def QOf (base : Nat) (w0 w1 : World) (L1 : Nat → Option Loc) (n1 nt : Nat) (Q : AE → Env → Heap → Nat → Prop) : Exit → Act → World → Prop :=
  fun e a w => ∃ ae s h n, Ends ae e ∧ Rel base w0 w1 L1 n1 nt s h n a w ∧ Q ae s h n

theorem awp_sound : ∀ (c : Code) (ac : AC), compC P nt c = some ac → ∀ (s : Env) (h : Heap) (n : Nat) (Q : AE → Env → Heap → Nat → Prop) (a : Act) (w : World),
    Rel base w0 w1 L1 n1 nt s h n a w → awp P ac s h n Q → c.wp P (QOf base w0 w1 L1 n1 nt Q) a w := by
  intro c
  induction c with
  | skip =>
    intro ac hc s h n Q a w hr hK
    simp only [compC, Option.some.injEq] at hc; subst hc
    exact wp_skip ⟨.normal, s, h, n, trivial, hr, hK⟩
  | region id ops draw =>
    intro ac hc s h n Q a w hr hK
    simp only [compC] at hc
    split at hc
    · rename_i hd
      subst hd
      simp only [Option.map_eq_some_iff] at hc
      obtain ⟨t, ht, rfl⟩ := hc
      exact compD_sound ht hr hK fun s h n a w hr hQ => ⟨.normal, s, h, n, trivial, hr, hQ⟩
    · rename_i hd
      have hd : draw = false := by simpa using hd
      subst hd
      simp only [Option.map_eq_some_iff] at hc
      obtain ⟨os, hos, rfl⟩ := hc
      exact wp_region_list (awpO_sound ops ops.toList os hos s h n _ a w _ hr hK fun s h n a w hr hQ => ⟨.normal, s, h, n, trivial, hr, hQ⟩)
  | seq x y ihx ihy =>
    intro ac hc s h n Q a w hr hK
    simp only [compC, Option.bind_eq_some_iff, Option.map_eq_some_iff] at hc
    obtain ⟨x', hx, y', hy, rfl⟩ := hc
    refine wp_seq (wp_mono (ihx x' hx s h n _ a w hr hK) ?_)
    rintro e a w ⟨ae, s, h, n, he, hr, hq⟩
    cases ae <;> cases e <;> simp only [Ends] at he <;> simp only [Exit.then]
    · exact ihy y' hy s h n Q a w hr hq
    · subst he; exact ⟨.exit _, s, h, n, rfl, hr, hq⟩
    · exact ⟨.ret, s, h, n, trivial, hr, hq⟩
  | cond c x y ihx ihy =>
    intro ac hc s h n Q a w hr hK
    simp only [compC, Option.bind_eq_some_iff, Option.map_eq_some_iff] at hc
    obtain ⟨c', hc', x', hx, y', hy, rfl⟩ := hc
    have hr' := hr
    obtain ⟨hdf, hsz, L, F, H, hs, he⟩ := hr'
    have hv := compX_sound hc' hs
    simp only [awp] at hK
    split at hK
    · rename_i b hb
      have hv := VR_bool hb hv
      cases b
      · exact wp_cond_false hv (ihy y' hy s h n Q a w hr (hK.2 rfl))
      · exact wp_cond_true hv (ihx x' hx s h n Q a w hr (hK.1 rfl))
    · exact hK.elim
  | block id x ih =>
    intro ac hc s h n Q a w hr hK
    simp only [compC, Option.map_eq_some_iff] at hc
    obtain ⟨x', hx, rfl⟩ := hc
    refine wp_block (wp_mono (ih x' hx s h n _ a w hr hK) ?_)
    rintro e a w ⟨ae, s, h, n, he, hr, hq⟩
    cases ae <;> cases e <;> simp only [Ends] at he <;> simp only [Exit.inBlock]
    · exact ⟨.normal, s, h, n, trivial, hr, hq⟩
    · subst he
      simp only at hq
      split
      · rename_i hi; rw [if_pos hi] at hq; exact ⟨.normal, s, h, n, trivial, hr, hq⟩
      · rename_i hi; rw [if_neg hi] at hq; exact ⟨.exit _, s, h, n, rfl, hr, hq⟩
    · exact ⟨.ret, s, h, n, trivial, hr, hq⟩
  | loop x ih =>
    intro ac hc s h n Q a w hr hK
    simp only [compC, Option.map_eq_some_iff] at hc
    obtain ⟨x', hx, rfl⟩ := hc
    obtain ⟨I, ⟨k, hk⟩, hround⟩ := hK
    refine wp_loop_ghost (fun k a w => ∃ s h n, Rel base w0 w1 L1 n1 nt s h n a w ∧ I k s h n) k ⟨s, h, n, hr, hk⟩ ?_
    rintro k a w ⟨s, h, n, hr, hk⟩
    refine wp_mono (ih x' hx s h n _ a w hr (hround k s h n hk)) ?_
    rintro e a w ⟨ae, s, h, n, he, hr, hq⟩
    cases ae <;> cases e <;> simp only [Ends] at he <;> simp only [Exit.then]
    · obtain ⟨k', hlt, hk'⟩ := hq
      exact ⟨k', hlt, s, h, n, hr, hk'⟩
    · subst he; exact ⟨.exit _, s, h, n, rfl, hr, hq⟩
    · exact ⟨.ret, s, h, n, trivial, hr, hq⟩
  | exit id =>
    intro ac hc s h n Q a w hr hK
    simp only [compC, Option.some.injEq] at hc; subst hc
    exact wp_exit ⟨.exit id, s, h, n, rfl, hr, hK⟩
  | ret =>
    intro ac hc s h n Q a w hr hK
    simp only [compC, Option.some.injEq] at hc; subst hc
    exact wp_ret ⟨.ret, s, h, n, trivial, hr, hK⟩
  | rangeFunc => intro ac hc; simp [compC] at hc
  | scope => intro ac hc; simp [compC] at hc
  | label => intro ac hc; simp [compC] at hc
  | goto => intro ac hc; simp [compC] at hc
  | refuse => intro ac hc; simp [compC] at hc
end

end Go.Proofs.Ytlefdibgonpoaaa
