/- Contracts: models. -/
import Derived.Test.YtlefdibgonpoaaaS12
namespace Go.Proofs.Ytlefdibgonpoaaa
open Go Go.RowKit Go.Proofs

structure ModD where
  n : Int
  rows : List LinD
  params : List LinD
  gs : List (List LinD)
  res : LinD
deriving DecidableEq

def modA (x : ModD) : AV := .agg [i64 x.n, linsA x.rows, linsA x.params, linssA x.gs, i64 x.res.1, ints x.res.2]
def modU (x : ModD) : AV := .agg [i64 x.n, linsU x.rows, linsU x.params, linssU x.gs, i64 x.res.1, .us 1 (intsR x.res.2)]

theorem c23 (x y : ModD) : Holds Try.prog 23 [modA x, modA y] (fun r => r = .bool (decide (x = y))) := by
  obtain ⟨n, rows, params, gs, res1, res2⟩ := x
  obtain ⟨n', rows', params', gs', res1', res2'⟩ := y
  refine holds_of_run Try.func23 a23_ok rfl (by simp [a23]) ?_
  simp [a23, modA, linsA, linssA]
  refine call_of (c57 n rows n' rows') (by simp [sysA, linsA]) ?_
  rintro r rfl
  simp
  refine ⟨fun h1 h2 => ?_, ?_⟩
  · subst h1 h2
    refine call_of (c58 params params') (by simp [linsA]) ?_
    rintro r rfl
    simp
    refine ⟨fun h3 => ?_, fun h3 e => absurd e h3⟩
    subst h3
    refine call_of (c59 gs gs') (by simp [linssA, linsA]) ?_
    rintro r rfl
    simp
    refine ⟨fun h4 => ?_, fun h4 e => absurd e h4⟩
    subst h4
    refine call_of (c31 (res1, res2) (res1', res2')) (by simp) ?_
    rintro r rfl
    simp
  · intro h1 h2 h3
    exact absurd h3 (h1 h2)

theorem c25 (x y : ModD) : Holds Try.prog 25 [modA x, modA y] (fun r => r = .bool (decide (x = y))) := by
  obtain ⟨n, rows, params, gs, res1, res2⟩ := x
  obtain ⟨n', rows', params', gs', res1', res2'⟩ := y
  refine holds_of_run Try.func25 a25_ok rfl (by simp [a25]) ?_
  simp [a25, modA, linsA, linssA]
  refine call_of (c62 n rows n' rows') (by simp [sysA, linsA]) ?_
  rintro r rfl
  simp
  refine ⟨fun h1 h2 => ?_, ?_⟩
  · subst h1 h2
    refine call_of (c63 params params') (by simp [linsA]) ?_
    rintro r rfl
    simp
    refine ⟨fun h3 => ?_, fun h3 e => absurd e h3⟩
    subst h3
    refine call_of (c64 gs gs' 63 c63) (by simp [linssA, linsA]) ?_
    rintro r rfl
    simp
    refine ⟨fun h4 => ?_, fun h4 e => absurd e h4⟩
    subst h4
    refine call_of (c65 (res1, res2) (res1', res2')) (by simp) ?_
    rintro r rfl
    simp
  · intro h1 h2 h3
    exact absurd h3 (h1 h2)

theorem c26 (x y : ModD) : Holds Try.prog 26 [modA x, modA y] (fun r => r = .bool (decide (x = y))) := by
  obtain ⟨n, rows, params, gs, res1, res2⟩ := x
  obtain ⟨n', rows', params', gs', res1', res2'⟩ := y
  refine holds_of_run Try.func26 a26_ok rfl (by simp [a26]) ?_
  simp [a26, modA, linsA, linssA]
  refine call_of (c66 n rows n' rows') (by simp [sysA, linsA]) ?_
  rintro r rfl
  simp
  refine ⟨fun h1 h2 h3 => ?_, fun h1 h2 => ?_⟩
  · rcases h1 with h1 | h1
    · exact absurd h2 h1
    · exact absurd h3 h1
  · subst h1 h2
    refine call_of (c39 params params') (by simp [linsA]) ?_
    rintro r rfl
    simp
    refine ⟨fun h3 e => absurd e h3, fun h3 => ?_⟩
    subst h3
    refine call_of (c67 gs gs') (by simp [linssA, linsA]) ?_
    rintro r rfl
    simp
    refine ⟨fun h4 e => absurd e h4, fun h4 => ?_⟩
    subst h4
    refine call_of (c38 (res1, res2) (res1', res2')) (by simp) ?_
    rintro r rfl
    simp
    grind

def neg1 (m : Int) (k : Int → Int) : Int := if m < 0 then -1 else k m
def szMod (x : ModD) (left : Int) : Int := neg1 (szLins x.rows left) fun l => neg1 (szLins x.params l) fun l => neg1 (szL szLins x.gs l) fun l => neg1 (szLin x.res l) id

theorem neg1_neg {m : Int} {k : Int → Int} (h : m < 0) : neg1 m k = -1 := if_pos h
theorem neg1_nn {m : Int} {k : Int → Int} (h : 0 ≤ m) : neg1 m k = k m := if_neg (by omega)
theorem c35' (l : List LinD) (left : Int) (h0 : 0 ≤ left ∧ left ≤ 4611686018427387904) : Holds Try.prog 35 [linsA l, i64 left] (fun r => r = i64 (szLins l left)) := c35 l left h0

theorem c22 (x : ModD) (left : Int) (hl : 0 ≤ left ∧ left ≤ 4611686018427387904) : Holds Try.prog 22 [modA x, i64 left] (fun r => r = i64 (szMod x left)) := by
  obtain ⟨n, rows, params, gs, res1, res2⟩ := x
  refine holds_of_run Try.func22 a22_ok rfl (by simp [a22]) ?_
  simp [a22, modA, linsA, linssA]
  refine call_of (c55 n rows left hl) (by simp [sysA, linsA]) ?_
  rintro r rfl
  have e0 : szMod ⟨n, rows, params, gs, (res1, res2)⟩ left = neg1 (szLins rows left) fun l => neg1 (szLins params l) fun l => neg1 (szL szLins gs l) fun l => neg1 (szLin (res1, res2) l) id := rfl
  rw [e0]
  simp
  refine ⟨fun h => by rw [neg1_neg h], fun h => ?_⟩
  have b1 := szLins_le rows left hl.1
  rw [neg1_nn h]
  generalize szLins rows left = l1 at *
  refine call_of (c35' params l1 (by omega)) (by simp [linsA]) ?_
  rintro r rfl
  simp
  refine ⟨fun h2 => by rw [neg1_neg h2], fun h2 => ?_⟩
  have b2 := szLins_le params l1 h
  rw [neg1_nn h2]
  generalize szLins params l1 = l2 at *
  refine call_of (c56 gs l2 (by omega)) (by simp [linssA, linsA]) ?_
  rintro r rfl
  simp
  refine ⟨fun h3 => by rw [neg1_neg h3], fun h3 => ?_⟩
  have b3 := szL_le szLins_le gs l2 h2
  rw [neg1_nn h3]
  generalize szL szLins gs l2 = l3 at *
  refine call_of (c34 (res1, res2) l3 (by omega)) (by simp) ?_
  rintro r rfl
  simp
  exact ⟨fun h4 => by rw [neg1_neg h4], fun h4 => by rw [neg1_nn h4]; rfl⟩
end Go.Proofs.Ytlefdibgonpoaaa
