/- Plain: the value of an expression at the values of its arguments. -/
import Derived.Test.YtoejpoioleffpaaC8
import Derived.Test.YtoejpoioleffpaaZ0
namespace Go.Proofs.Ytoejpoioleffpaa
set_option linter.all false
open Go Go.RowKit Go.Proofs
set_option maxRecDepth 20000
def dotZ : List Int → List Int → Int
  | a :: us, b :: ws => a * b + dotZ us ws
  | _, _ => 0
def evZ (l : DLin) (vs : List Int) : Int := l.Const + dotZ l.Coeffs vs
theorem scaledO_some {x k y v : Int} (h : scaledO x k y = some v) : v = x + k * y := by
  unfold scaledO at h
  split at h
  · rename_i hc
    simp only [Bool.and_eq_true, Option.some.injEq] at hc h
    subst h
    have h1 : mulL k y = (k * y, true) := by
      unfold mulL at hc ⊢
      split
      · rfl
      · rename_i hn; rw [if_neg hn] at hc; simp at hc
    rw [h1] at hc ⊢
    have h2 := hc.2
    unfold addL at h2 ⊢
    split
    · rfl
    · rename_i hn; rw [if_neg hn] at h2; simp at h2
  · cases h
theorem dot_comb (k : Int) : ∀ (us ws vs : List Int), us.length = ws.length → (List.zipWith (fun x y => scaledO x k y) us ws).all Option.isSome = true →
    dotZ ((List.zipWith (fun x y => scaledO x k y) us ws).map (·.getD 0)) vs = dotZ us vs + k * dotZ ws vs
  | [], [], vs, _, _ => by simp [dotZ]
  | a :: us, b :: ws, [], _, _ => by simp [dotZ]
  | a :: us, b :: ws, v :: vs, hl, h => by
    simp only [List.zipWith_cons_cons, List.all_cons, Bool.and_eq_true] at h
    obtain ⟨y, hy⟩ := Option.isSome_iff_exists.1 h.1
    have ih := dot_comb k us ws vs (by simpa using hl) h.2
    simp only [List.zipWith_cons_cons, List.map_cons, hy, Option.getD_some, dotZ, ih, scaledO_some hy, Int.add_mul, Int.mul_add, Int.mul_assoc]
    omega
  | [], _ :: _, _, hl, _ => by cases hl
  | _ :: _, [], _, hl, _ => by cases hl
theorem addScaled_ev {a b o : DLin} {k : Int} (h : addScaled a k b = some o) (vs : List Int) : evZ o vs = evZ a vs + k * evZ b vs := by
  unfold addScaled at h
  split at h
  · rename_i hc
    simp only [Bool.and_eq_true] at hc
    obtain ⟨y, hy⟩ := Option.isSome_iff_exists.1 hc.1.2
    have h1 := okLin_len hc.1.1.1.1
    have h2 := okLin_len hc.1.1.1.2
    cases h
    have h3 := dot_comb k a.Coeffs b.Coeffs vs (by omega) (by simpa [combOk, combZ] using hc.2)
    simp only [evZ, hy, Option.getD_some, combZ, h3, scaledO_some hy, Int.mul_add]
    omega
  · cases h
def sumP (vs : List Int) : List (Int × DLin) → Int
  | [] => 0
  | p :: l => p.1 * evZ p.2 vs + sumP vs l
theorem goInst_ev (vs : List Int) : ∀ (l : List (Int × DLin)) (o r : DLin), goInst l o = some r → evZ r vs = evZ o vs + sumP vs l
  | [], o, r, h => by simp only [goInst, Option.some.injEq] at h; subst h; simp [sumP]
  | p :: l, o, r, h => by
    simp only [goInst] at h
    split at h
    · rename_i o' ho
      rw [goInst_ev vs l o' r h, addScaled_ev ho vs, sumP]
      omega
    · cases h
theorem sumP_zip (vs : List Int) : ∀ (cs : List Int) (args : List DLin), sumP vs (cs.zip args) = dotZ cs (args.map fun a => evZ a vs)
  | [], _ => by simp [sumP, dotZ]
  | _ :: _, [] => by simp [sumP, dotZ]
  | c :: cs, a :: args => by simp [sumP, dotZ, sumP_zip vs cs args]
theorem dot_zero (n : Nat) : ∀ (vs : List Int), dotZ (List.replicate n 0) vs = 0 := by
  induction n with
  | zero => intro vs; cases vs <;> rfl
  | succ n ih => intro vs; cases vs <;> simp [List.replicate_succ, dotZ, ih]
theorem constLin_ev (c : Int) (n : Nat) (h : okLin (constLin c n) n = true) (hc : okC c = true) (vs : List Int) : evZ (constLin c n) vs = c := by
  have hn := okLin_len h
  rw [(constLin_ok hc (by omega)).1]
  simp [evZ, dot_zero]
theorem instLin_ev {l x : DLin} {args : List DLin} (h : instLin l args = some x) (vs : List Int) : evZ x vs = evZ l (args.map fun a => evZ a vs) := by
  unfold instLin at h
  split at h
  · rename_i hc
    simp only [Bool.and_eq_true] at hc
    rw [goInst_ev vs _ _ _ h, sumP_zip, constLin_ev _ _ hc.2 (okLin_c hc.1)]
    rfl
  · cases h
theorem mul_lim2 {c x : Int} (hc : okC c = true) (hx : fits x = true) : -1000000000000000 ≤ c * x ∧ c * x ≤ 1000000000000000 := by
  rw [okC_iff] at hc
  simp [fits, inR] at hx
  have h : (c * x).natAbs ≤ 1000000000 * 1000000 := by
    rw [Int.natAbs_mul]; exact Nat.mul_le_mul (by omega) (by omega)
  omega
theorem evalW_exact (B : Int) (hB : B = 9000000000000000000) (cs : List Int) : ∀ (xs : List Int) (acc : Int), cs.all okC = true → xs.all fits = true →
    -(B - 1000000000000000 * (cs.length : Int)) ≤ acc → acc ≤ B - 1000000000000000 * (cs.length : Int) → (cs.length : Int) ≤ 9000 → evalW acc cs xs = acc + dotZ cs xs := by
  induction cs with
  | nil => intro xs acc _ _ _ _ _; cases xs <;> simp [evalW, dotZ]
  | cons c cs ih =>
    intro xs acc h1 h2 h3 h4 h5
    cases xs with
    | nil => simp [evalW, dotZ]
    | cons x xs =>
      simp only [List.all_cons, Bool.and_eq_true] at h1 h2
      have hb := mul_lim2 h1.1 h2.1
      simp only [List.length_cons] at h3 h4 h5
      simp only [evalW, dotZ]
      rw [wrap64 (x := c * x) (by omega), wrap64 (by omega), ih xs _ h1.2 h2.2 (by omega) (by omega) (by omega)]
      omega
theorem evalW_ev {l : DLin} {vs : List Int} (h : okLin l vs.length = true) (hf : vs.all fits = true) : evalW l.Const l.Coeffs vs = evZ l vs := by
  have hl := okLin_len h
  have hc := okLin_c h
  rw [okC_iff] at hc
  unfold okLin at h
  simp only [Bool.and_eq_true] at h
  exact evalW_exact _ rfl _ _ _ h.2 hf (by omega) (by omega) (by omega)
theorem goInst_ok {n : Nat} : ∀ (l : List (Int × DLin)) (o r : DLin), o.Coeffs.length = n → goInst l o = some r → ∀ p ∈ l, okLin p.2 n = true
  | [], _, _, _, _, p, hp => by cases hp
  | q :: l, o, r, hn, h, p, hp => by
    simp only [goInst] at h
    split at h
    · rename_i o' ho
      obtain ⟨h1, h2⟩ := addScaled_some ho
      rcases List.mem_cons.1 hp with rfl | hp
      · rw [hn] at h2; exact h2
      · exact goInst_ok l o' r (by omega) h p hp
    · cases h
theorem instLin_args {l x : DLin} {args : List DLin} (h : instLin l args = some x) : ∀ a ∈ args, okLin a (argN args) = true := by
  have h0 := h
  unfold instLin at h
  split at h
  · rename_i hc
    simp only [Bool.and_eq_true] at hc
    have hl := okLin_len hc.1
    have hn := okLin_len hc.2
    intro a ha
    obtain ⟨i, hi, rfl⟩ := List.mem_iff_getElem.1 ha
    exact goInst_ok (n := argN args) _ _ _ (by omega) h ((l.Coeffs[i]'(by omega)), args[i]) (List.mem_iff_getElem.2 ⟨i, by simp; omega, by simp⟩)
  · cases h
/-- The law's last word. -/
theorem inst_same {l x : DLin} {args : List DLin} (h : instLin l args = some x) {vs : List Int} (hv : vs.length = argN args) (hf : vs.all fits = true) (h1 : (evalO x vs).2 = true) (h2 : (evalO l (args.map fun a => (evalO a vs).1)).2 = true) :
    (evalO x vs).1 = (evalO l (args.map fun a => (evalO a vs).1)).1 := by
  have ha := instLin_args h
  have ex : ∀ {y : DLin} {us : List Int}, (evalO y us).2 = true → (evalO y us).1 = evZ y us := by
    intro y us hy
    unfold evalO at hy ⊢
    cases h1 : okLin y us.length
    · rw [h1] at hy; cases hy
    · rw [h1] at hy
      simp only [cond_true] at hy ⊢
      unfold evP at hy ⊢
      cases h2 : us.all fits
      · rw [h2] at hy; cases hy
      · exact evalW_ev h1 h2
  have hm : (args.map fun a => (evalO a vs).1) = args.map fun a => evZ a vs := List.map_congr_left fun a hm => by
    refine ex ?_
    unfold evalO evP
    rw [hv, ha a hm, hf]; rfl
  rw [ex h1, ex h2, hm, instLin_ev h]
end Go.Proofs.Ytoejpoioleffpaa
