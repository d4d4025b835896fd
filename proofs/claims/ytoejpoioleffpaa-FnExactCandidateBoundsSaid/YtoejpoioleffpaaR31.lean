/- Loops that count. -/
import Derived.Test.YtoejpoioleffpaaRD
namespace Go.Proofs.Ytoejpoioleffpaa
set_option linter.all false
open Go Go.RowKit

attribute [simp] binS fillA srcRows
@[simp high] theorem gd_tt2 {A B : Prop} : gd true true A B = A := by simp [gd]
@[simp high] theorem gd_ft2 {A B : Prop} : gd false true A B = B := by simp [gd]
@[simp high] theorem gd_tf2 {A B : Prop} : gd true false A B = B := by simp [gd]
@[simp high] theorem gd_ff2 {A B : Prop} : gd false false A B = A := by simp [gd]
@[simp] theorem hK_same {h : Heap} {K : AV → Heap → Nat → Prop} {r : AV} {n : Nat} : hK h K r h n = K r h n := by simp [hK, hext.refl]

/-! What is handed over is not too long. -/
mutual
def limA : AV → Prop
  | .sl _ rows => rows.length ≤ LIM
  | .us _ rows => rows.length ≤ LIM
  | .str l => l.length ≤ LIM
  | .agg cs => limL cs
  | .tup cs => limL cs
  | .undef | .int .. | .bool _ | .nil _ | .nilp | .ptr .. | .fptr .. | .ref .. | .fn .. | .mp _ => True
def limL : List AV → Prop
  | [] => True
  | a :: as => limA a ∧ limL as
end
section
variable {w : World} {L : Nat → Option Loc} {N : Nat}
mutual
theorem VR_lim : ∀ (a : AV) (v : Value) (S : List Nat), VR w L N a v S → limA a
  | .sl .., _, _, h => by
    simp only [VR] at h
    obtain ⟨⟨A, cap, vals, _, hl, _⟩, _⟩ := h
    simp only [limA]; exact hl.1
  | .us .., _, _, h => by simp only [VR] at h; simp only [limA]; exact h.1
  | .str _, _, _, h => by
    simp only [VR] at h
    obtain ⟨⟨b, _, _, hl⟩, _⟩ := h
    simp only [limA]; exact hl
  | .agg cs, _, _, h => by simp only [VR] at h; obtain ⟨vs, _, h⟩ := h; simp only [limA]; exact VRl_lim cs _ _ h
  | .tup cs, _, _, h => by simp only [VR] at h; obtain ⟨vs, _, h⟩ := h; simp only [limA]; exact VRl_lim cs _ _ h
  | .undef, _, _, _ | .int .., _, _, _ | .bool _, _, _, _ | .nil _, _, _, _ | .nilp, _, _, _ | .ptr .., _, _, _ | .fptr .., _, _, _ | .ref .., _, _, _ | .fn .., _, _, _ | .mp _, _, _, _ => by simp only [limA]
theorem VRl_lim : ∀ (as : List AV) (vs : List Value) (S : List Nat), VRl w L N as vs S → limL as
  | [], _, _, _ => by simp only [limL]
  | a :: as, _, _, h => by
    simp only [VRl] at h
    obtain ⟨v, vs', S1, S2, _, _, h1, h2⟩ := h
    simp only [limL]; exact ⟨VR_lim a _ _ h1, VRl_lim as _ _ h2⟩
end
end
theorem holds_of_lim {P : Program} {f : FuncId} {fn : Func} {as : List AV} {Q : AV → Prop} (hf : P.funcs[f]? = some fn) (hb : fn.body.isSome = true) (hn : (fn.name == "runtime.NumGoroutine") = false) (h : limL as → Holds P f as Q) : Holds P f as Q :=
  ⟨by simp [callable, hf, hb, hn], fun w vs hv => (h (VRl_lim as vs [] hv)).2 w vs hv⟩
attribute [simp] limA limL

theorem awpO_mono {P : Program} {K K' : Env → Heap → Nat → Prop} (hk : ∀ s h n, K s h n → K' s h n) : ∀ {os : List AO} {s : Env} {h : Heap} {n : Nat}, awpO P os s h n K → awpO P os s h n K'
  | [], s, h, n, hw => hk s h n hw
  | o :: os, s, h, n, hw => by
    simp only [awpO] at hw ⊢
    cases hg : o.g with
    | none => rw [hg] at hw; exact aop_mono hw fun _ _ _ h => awpO_mono hk h
    | some p =>
      obtain ⟨j, want⟩ := p
      rw [hg] at hw
      simp only at hw ⊢
      cases hs : s j <;> rw [hs] at hw <;> try exact hw.elim
      · exact ⟨fun e => aop_mono (hw.1 e) fun _ _ _ h => awpO_mono hk h, fun e => awpO_mono hk (hw.2 e)⟩
      · rename_i vs
        cases vs
        · exact awpO_mono hk hw
        · exact hw.elim
theorem aopD_mono {P : Program} {s : Env} {h : Heap} {n : Nat} {K K' : AV → Heap → Nat → Prop} {op : AOp} (hw : aopD P s h n K op) (hk : ∀ r h n, K r h n → K' r h n) : aopD P s h n K' op := by
  unfold aopD at hw ⊢
  split at hw
  · split at hw
    · rename_i hf; try simp only [hf]
      exact ACall.mono hw fun _ _ _ h => ⟨h.1, hk _ _ _ h.2⟩
    · exact hw.elim
  · split at hw
    · exact hk _ _ _ hw
    · exact hk _ _ _ hw
    · exact ⟨hw.1, hk _ _ _ hw.2⟩
    · exact hk _ _ _ hw
    · exact hw.elim
  · exact aop_mono hw hk
theorem aopH_mono {P : Program} {s : Env} {h : Heap} {n : Nat} {K K' : AV → Heap → Nat → Prop} {op : AOp} (hw : aopH P s h n K op) (hk : ∀ r h n, K r h n → K' r h n) : aopH P s h n K' op := by
  unfold aopH at hw ⊢
  split at hw
  · exact aop_mono hw hk
  · exact aopD_mono hw hk
theorem awpD_mono {P : Program} {K K' : Env → Heap → Nat → Prop} (hk : ∀ s h n, K s h n → K' s h n) : ∀ {t : DT} {s : Env} {h : Heap} {n : Nat}, awpD P t s h n K → awpD P t s h n K'
  | .fin, s, h, n, hw => hk s h n hw
  | .stuck, _, _, _, hw => hw.elim
  | .both a b, s, h, n, hw => ⟨awpD_mono hk hw.1, awpD_mono hk hw.2⟩
  | .op o t, s, h, n, hw => by
    simp only [awpD] at hw ⊢
    cases hg : o.g with
    | none => rw [hg] at hw; exact aopD_mono hw fun _ _ _ h => awpD_mono hk h
    | some p =>
      obtain ⟨j, want⟩ := p
      rw [hg] at hw
      simp only at hw ⊢
      cases hs : s j <;> rw [hs] at hw <;> try exact hw.elim
      · exact ⟨fun e => aopD_mono (hw.1 e) fun _ _ _ h => awpD_mono hk h, fun e => awpD_mono hk (hw.2 e)⟩
      · rename_i vs
        cases vs
        · exact awpD_mono hk hw
        · exact hw.elim
  | .hop o ps t, s, h, n, hw => by
    simp only [awpD] at hw ⊢
    cases hg : o.g with
    | none => rw [hg] at hw; exact aopH_mono hw fun _ _ _ h => ⟨h.1, awpD_mono hk h.2⟩
    | some p =>
      obtain ⟨j, want⟩ := p
      rw [hg] at hw
      simp only at hw ⊢
      cases hs : s j <;> rw [hs] at hw <;> try exact hw.elim
      · exact ⟨fun e => aopH_mono (hw.1 e) fun _ _ _ h => ⟨h.1, awpD_mono hk h.2⟩, fun e => awpD_mono hk (hw.2 e)⟩
      · rename_i vs
        cases vs
        · exact awpD_mono hk hw
        · exact hw.elim
theorem awp_mono {P : Program} : ∀ {a : AC} {s : Env} {h : Heap} {n : Nat} {Q Q' : Fin}, awp P a s h n Q → (∀ e s h n, Q e s h n → Q' e s h n) → awp P a s h n Q' := by
  intro a
  induction a with
  | skip => intro s h n Q Q' hw hq; exact hq _ _ _ _ hw
  | reg os => intro s h n Q Q' hw hq; exact awpO_mono (hq .normal) hw
  | seq a b iha ihb =>
    intro s h n Q Q' hw hq
    refine iha hw fun e s h n hh => ?_
    cases e
    · exact ihb hh hq
    · exact hq _ _ _ _ hh
    · exact hq _ _ _ _ hh
  | cond c a b iha ihb =>
    intro s h n Q Q' hw hq
    simp only [awp] at hw ⊢
    split at hw
    · exact ⟨fun e => iha (hw.1 e) hq, fun e => ihb (hw.2 e) hq⟩
    · exact hw.elim
  | blk id a iha =>
    intro s h n Q Q' hw hq
    refine iha hw fun e s h n hh => ?_
    cases e
    · exact hq _ _ _ _ hh
    · simp only at hh ⊢; split
      · rename_i hx; rw [if_pos hx] at hh; exact hq _ _ _ _ hh
      · rename_i hx; rw [if_neg hx] at hh; exact hq _ _ _ _ hh
    · exact hq _ _ _ _ hh
  | loop a iha =>
    intro s h n Q Q' hw hq
    obtain ⟨I, h0, hs⟩ := hw
    refine ⟨I, h0, fun k s h n hi => iha (hs k s h n hi) fun e s h n hh => ?_⟩
    cases e
    · exact hh
    · exact hq _ _ _ _ hh
    · exact hq _ _ _ _ hh
  | exit id => intro s h n Q Q' hw hq; exact hq _ _ _ _ hw
  | ret => intro s h n Q Q' hw hq; exact hq _ _ _ _ hw
  | draw t => intro s h n Q Q' hw hq; exact awpD_mono (hq .normal) hw

@[simp ↓ high] theorem rC_condt {P : Program} {ks : List Kt} {s : Env} {h : Heap} {n : Nat} {Q : Fin} {c : Opd} {a b : AC} (hc : ev s c = .bool true) : rC P (.cond c a b) ks s h n Q = rC P a ks s h n Q := by
  rw [rC_cond, hc]; simp [gd]
@[simp ↓ high] theorem rC_condf {P : Program} {ks : List Kt} {s : Env} {h : Heap} {n : Nat} {Q : Fin} {c : Opd} {a b : AC} (hc : ev s c = .bool false) : rC P (.cond c a b) ks s h n Q = rC P b ks s h n Q := by
  rw [rC_cond, hc]; simp [gd]
section
variable {P : Program} {s : Env} {h : Heap} {n : Nat} {ks : List Kt} {Q : Fin} {a : AC}

/-- Behind a round of a counting loop. -/
def forK (P : Program) (ks : List Kt) (Q : Fin) (keep : List Nat) (s0 : Env) (ic i : Nat) (J : Nat → Env → Heap → Nat → Prop) : Fin := fun e s h n => match e with
  | .normal => (∀ j ∈ keep, s j = s0 j) ∧ s ic = .int .i64 ((i : Int) + 1) ∧ J (i + 1) s h n
  | e => kont P ks e s h n Q
def endK (P : Program) (ks : List Kt) (Q : Fin) : Fin := fun e s h n => match e with
  | .normal => False
  | e => kont P ks e s h n Q
@[simp ↓] theorem forK_normal {keep : List Nat} {s0 s' : Env} {ic i : Nat} {J : Nat → Env → Heap → Nat → Prop} {h' : Heap} {n' : Nat} : forK P ks Q keep s0 ic i J .normal s' h' n' = ((∀ j ∈ keep, s' j = s0 j) ∧ s' ic = .int .i64 ((i : Int) + 1) ∧ J (i + 1) s' h' n') := propext Iff.rfl
@[simp ↓] theorem forK_ret {keep : List Nat} {s0 s' : Env} {ic i : Nat} {J : Nat → Env → Heap → Nat → Prop} {h' : Heap} {n' : Nat} : forK P ks Q keep s0 ic i J .ret s' h' n' = kont P ks .ret s' h' n' Q := propext Iff.rfl
@[simp ↓] theorem forK_exit {keep : List Nat} {s0 s' : Env} {ic i x : Nat} {J : Nat → Env → Heap → Nat → Prop} {h' : Heap} {n' : Nat} : forK P ks Q keep s0 ic i J (.exit x) s' h' n' = kont P ks (.exit x) s' h' n' Q := propext Iff.rfl
@[simp ↓] theorem endK_ret {s' : Env} {h' : Heap} {n' : Nat} : endK P ks Q .ret s' h' n' = kont P ks .ret s' h' n' Q := propext Iff.rfl
@[simp ↓] theorem endK_exit {x : Nat} {s' : Env} {h' : Heap} {n' : Nat} : endK P ks Q (.exit x) s' h' n' = kont P ks (.exit x) s' h' n' Q := propext Iff.rfl

/-- A loop whose counter goes from 0 to N by ones; J may speak of the heap. -/
theorem rL_forH (keep : List Nat) (ic N : Nat) (J : Nat → Env → Heap → Nat → Prop) (hN : N ≤ LIM) (hi0 : s ic = .int .i64 0) (hJ0 : J 0 s h n)
    (hstep : ∀ i s' h' n', i < N → ¬ N ≤ i → (∀ j ∈ keep, s' j = s j) → s' ic = .int .i64 (i : Int) → IntKind.i64.wrap ((i : Int) + 1) = (i : Int) + 1 → J i s' h' n' → rC P a [] s' h' n' (forK P ks Q keep s ic i J))
    (hend : ∀ s' h' n', (∀ j ∈ keep, s' j = s j) → s' ic = .int .i64 (N : Int) → J N s' h' n' → rC P a [] s' h' n' (endK P ks Q)) : rL P a ks s h n Q := by
  refine rL_of (fun k s' h' n' => ∃ i : Nat, k = N - i ∧ i ≤ N ∧ (∀ j ∈ keep, s' j = s j) ∧ s' ic = .int .i64 (i : Int) ∧ J i s' h' n') N ⟨0, by simp, Nat.zero_le _, fun _ _ => rfl, hi0, hJ0⟩ ?_
  rintro k s' h' n' ⟨i, rfl, hi, hk, hic, hJ⟩
  unfold LIM at hN
  by_cases hlt : i < N
  · have := hstep i s' h' n' hlt (by omega) hk hic (wrap64 (by omega)) hJ
    unfold rC at this ⊢
    refine awp_mono this ?_
    intro e s2 h2 n2 hq
    cases e
    · obtain ⟨q1, q2, q3⟩ := hq
      exact ⟨N - (i + 1), by omega, i + 1, rfl, by omega, q1, q2, q3⟩
    · exact hq
    · exact hq
  · have hiN : i = N := by omega
    subst hiN
    have := hend s' h' n' hk hic hJ
    unfold rC at this ⊢
    refine awp_mono this ?_
    intro e s2 h2 n2 hq
    cases e
    · exact hq.elim
    · exact hq
    · exact hq

theorem rL_for (keep : List Nat) (ic N : Nat) (J : Nat → Env → Prop) (hN : N ≤ LIM) (hi0 : s ic = .int .i64 0) (hJ0 : J 0 s)
    (hstep : ∀ i s', i < N → ¬ N ≤ i → (∀ j ∈ keep, s' j = s j) → s' ic = .int .i64 (i : Int) → IntKind.i64.wrap ((i : Int) + 1) = (i : Int) + 1 → J i s' → rC P a [] s' h n (forK P ks Q keep s ic i fun i s' h' n' => J i s' ∧ h' = h ∧ n' = n))
    (hend : ∀ s', (∀ j ∈ keep, s' j = s j) → s' ic = .int .i64 (N : Int) → J N s' → rC P a [] s' h n (endK P ks Q)) : rL P a ks s h n Q := by
  refine rL_forH keep ic N (fun i s' h' n' => J i s' ∧ h' = h ∧ n' = n) hN hi0 ⟨hJ0, rfl, rfl⟩ ?_ ?_
  · rintro i s' h' n' hi hg hk hic hw ⟨hJ, rfl, rfl⟩; exact hstep i s' hi hg hk hic hw hJ
  · rintro s' h' n' hk hic ⟨hJ, rfl, rfl⟩; exact hend s' hk hic hJ

/-- The same, with what follows hidden behind a letter. -/
theorem rL_forO (keep : List Nat) (ic N : Nat) (J : Nat → Env → Heap → Nat → Prop) (hN : N ≤ LIM) (hi0 : s ic = .int .i64 0) (hJ0 : J 0 s h n)
    (hstep : ∀ i s' h' n' (R : Fin), i < N → ¬ N ≤ i → (∀ j ∈ keep, s' j = s j) → s' ic = .int .i64 (i : Int) → IntKind.i64.wrap ((i : Int) + 1) = (i : Int) + 1 → J i s' h' n' →
      (∀ s'' h'' n'', (∀ j ∈ keep, s'' j = s j) → s'' ic = .int .i64 ((i : Int) + 1) → J (i + 1) s'' h'' n'' → R .normal s'' h'' n'') →
      (∀ s'' h'' n'', kont P ks .ret s'' h'' n'' Q → R .ret s'' h'' n'') → (∀ x s'' h'' n'', kont P ks (.exit x) s'' h'' n'' Q → R (.exit x) s'' h'' n'') → rC P a [] s' h' n' R)
    (hend : ∀ s' h' n' (R : Fin), (∀ j ∈ keep, s' j = s j) → s' ic = .int .i64 (N : Int) → J N s' h' n' →
      (∀ s'' h'' n'', kont P ks .ret s'' h'' n'' Q → R .ret s'' h'' n'') → (∀ x s'' h'' n'', kont P ks (.exit x) s'' h'' n'' Q → R (.exit x) s'' h'' n'') → rC P a [] s' h' n' R) : rL P a ks s h n Q := by
  refine rL_forH keep ic N J hN hi0 hJ0 ?_ ?_
  · intro i s' h' n' hi hg hk hic hw hJ
    exact hstep i s' h' n' _ hi hg hk hic hw hJ (fun _ _ _ h1 h2 h3 => ⟨h1, h2, h3⟩) (fun _ _ _ h => h) (fun _ _ _ _ h => h)
  · intro s' h' n' hk hic hJ
    exact hend s' h' n' _ hk hic hJ (fun _ _ _ h => h) (fun _ _ _ _ h => h)

/-- The same, over a heap that stays. -/
theorem rL_forS (keep : List Nat) (ic N : Nat) (J : Nat → Env → Prop) (hN : N ≤ LIM) (hi0 : s ic = .int .i64 0) (hJ0 : J 0 s)
    (hstep : ∀ i s' h' (R : Fin), i < N → ¬ N ≤ i → (∀ j ∈ keep, s' j = s j) → s' ic = .int .i64 (i : Int) → IntKind.i64.wrap ((i : Int) + 1) = (i : Int) + 1 → J i s' → (∀ id, h' id = h id) →
      (∀ s'', (∀ j ∈ keep, s'' j = s j) → s'' ic = .int .i64 ((i : Int) + 1) → J (i + 1) s'' → R .normal s'' h' n) →
      (∀ s'' h'' n'', kont P ks .ret s'' h'' n'' Q → R .ret s'' h'' n'') → (∀ x s'', kont P ks (.exit x) s'' h n Q → R (.exit x) s'' h' n) → rC P a [] s' h' n R)
    (hend : ∀ s' h' (R : Fin), (∀ j ∈ keep, s' j = s j) → s' ic = .int .i64 (N : Int) → J N s' → (∀ id, h' id = h id) →
      (∀ s'' h'' n'', kont P ks .ret s'' h'' n'' Q → R .ret s'' h'' n'') → (∀ x s'', kont P ks (.exit x) s'' h n Q → R (.exit x) s'' h' n) → rC P a [] s' h' n R) : rL P a ks s h n Q := by
  refine rL_for keep ic N J hN hi0 hJ0 ?_ ?_
  · intro i s' hi hg hk hic hw hJ
    exact hstep i s' h _ hi hg hk hic hw hJ (fun _ => rfl) (fun _ h1 h2 h3 => ⟨h1, h2, h3, rfl, rfl⟩) (fun _ _ _ h => h) (fun _ _ h => h)
  · intro s' hk hic hJ
    exact hend s' h _ hk hic hJ (fun _ => rfl) (fun _ _ _ h => h) (fun _ _ h => h)
end
end Go.Proofs.Ytoejpoioleffpaa
