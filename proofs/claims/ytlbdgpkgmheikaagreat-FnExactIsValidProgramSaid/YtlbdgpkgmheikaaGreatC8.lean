/- Contracts: an expression at the values of its arguments. -/
import Derived.Test.YtlbdgpkgmheikaaGreatC3
import Derived.Test.YtlbdgpkgmheikaaGreatM1
namespace Go.Proofs.YtlbdgpkgmheikaaGreat
set_option linter.all false
open Go Go.RowKit Go.Proofs
theorem a57_ok : compFn Tryz.prog Tryz.f57 = some (tContainsFunc 100) := by kernel_rfl
theorem a100_ok : compFn Tryz.prog Tryz.f100 = some (tIndexFunc true 2) := by kernel_rfl


def goInst : List (Int × DLin) → DLin → Option DLin
  | [], o => some o
  | p :: l, o => match addScaled o p.1 p.2 with
    | some o' => goInst l o'
    | Option.none => Option.none
def argN (args : List DLin) : Nat := match args with | [] => 0 | a :: _ => a.Coeffs.length
def instLin (l : DLin) (args : List DLin) : Option DLin :=
  if okLin l args.length && okLin (constLin l.Const (argN args)) (argN args) then goInst (l.Coeffs.zip args) (constLin l.Const (argN args)) else Option.none

theorem addScaled_some {a b o : DLin} {k : Int} (h : addScaled a k b = some o) : o.Coeffs.length = a.Coeffs.length ∧ okLin b a.Coeffs.length = true := by
  unfold addScaled at h
  split at h
  · rename_i hc
    simp only [Bool.and_eq_true] at hc
    have h1 := okLin_len hc.1.1.1.1
    have h2 := okLin_len hc.1.1.1.2
    cases h
    refine ⟨?_, hc.1.1.1.2⟩
    simp [combZ]; omega
  · cases h
theorem goInst_bad {n : Nat} : ∀ (l : List (Int × DLin)) (o : DLin), o.Coeffs.length = n → (∃ p ∈ l, okLin p.2 n = false) → goInst l o = Option.none
  | [], o, _, h => by obtain ⟨p, hp, _⟩ := h; cases hp
  | q :: l, o, hn, h => by
    obtain ⟨p, hp, hb⟩ := h
    simp only [goInst]
    split
    · rename_i o' ho
      obtain ⟨h1, h2⟩ := addScaled_some ho
      rcases List.mem_cons.1 hp with rfl | hp
      · rw [hn, hb] at h2; cases h2
      · exact goInst_bad l o' (by omega) ⟨p, hp, hb⟩
    · rfl
theorem constLin_ok {c : Int} {n : Nat} (hc : okC c = true) (hn : (n : Int) ≤ 8) : constLin c n = ⟨c, List.replicate n 0⟩ ∧ okLin (constLin c n) n = true := by
  have h : constLin c n = ⟨c, List.replicate n 0⟩ := by
    unfold constLin
    rw [if_pos (by simp [inR, hc]; omega)]; simp
  refine ⟨h, ?_⟩
  rw [h]
  simp [okLin, inR, hc, hn]
  right; decide
theorem okLin_c {l : DLin} {n : Int} (h : okLin l n = true) : okC l.Const = true := by
  unfold okLin at h; simp only [Bool.and_eq_true] at h; exact h.1.2
/-- What the program asks first, all arguments' shape, is asked on the way anyhow. -/
theorem inst_impl {l : DLin} {args : List DLin} (h1 : okLin l args.length = true) : instLin l args = if args.all (fun a => okLin a (argN args)) then goInst (l.Coeffs.zip args) (constLin l.Const (argN args)) else Option.none := by
  unfold instLin
  rw [h1, Bool.true_and]
  have hl := okLin_len h1
  cases h2 : args.all (fun a => okLin a (argN args))
  · simp only [Bool.false_eq_true, if_false]
    split
    · rename_i h3
      have h3' := okLin_len h3
      rw [List.all_eq_false] at h2
      obtain ⟨a, ha, hb⟩ := h2
      obtain ⟨i, hi, rfl⟩ := List.mem_iff_getElem.1 ha
      refine goInst_bad (n := argN args) _ _ (by omega) ⟨(l.Coeffs[i]'(by omega), args[i]), List.mem_iff_getElem.2 ⟨i, by simp; omega, by simp⟩, by simpa using hb⟩
    · rfl
  · have hn : ((argN args : Nat) : Int) ≤ 8 := by
      cases args with
      | nil => simp [argN]
      | cons a rest =>
        simp only [List.all_cons, Bool.and_eq_true] at h2
        exact (okLin_len h2.1).2.2
    rw [if_pos (constLin_ok (okLin_c h1) hn).2, if_pos rfl]

theorem goInst_len : ∀ (l : List (Int × DLin)) (o r : DLin), goInst l o = some r → r.Coeffs.length = o.Coeffs.length
  | [], o, r, h => by cases h; rfl
  | p :: l, o, r, h => by
    simp only [goInst] at h
    split at h
    · rename_i o' ho
      rw [goInst_len l o' r h, (addScaled_some ho).1]
    · cases h
theorem constLin_len (c : Int) (n : Int) : (constLin c n).Coeffs.length ≤ 8 := by
  unfold constLin
  split
  · rename_i h
    simp [inR] at h
    simp; omega
  · simp
theorem instLin_c (l : DLin) (args : List DLin) : cLin ((instLin l args).getD lin0) ≤ 8 := by
  unfold cLin
  rw [cIntS_len]
  cases h : instLin l args with
  | none => simp [lin0]
  | some r =>
    unfold instLin at h
    split at h
    · simp [goInst_len _ _ _ h, constLin_len]
    · cases h
end Go.Proofs.YtlbdgpkgmheikaaGreat
