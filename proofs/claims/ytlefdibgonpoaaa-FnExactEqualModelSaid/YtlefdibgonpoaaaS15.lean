/- Contract: the body of FnExactEqualModel. -/
import Derived.Test.YtlefdibgonpoaaaS14
namespace Go.Proofs.Ytlefdibgonpoaaa
open Go Go.RowKit Go.Proofs

attribute [simp] take_map_len
@[simp] theorem drr_lin (l : List LinD) : drr (l.map fun x => [AV.int .i64 x.1, AV.us 1 (intsR x.2)]) = l.map linRow := by
  rw [drr_eq, List.map_map]; refine List.map_congr_left fun x _ => ?_; simp
@[simp] theorem drr_lins (l : List (List LinD)) : drr (l.map fun x => [AV.us 2 (x.map fun x => [AV.int .i64 x.1, AV.us 1 (intsR x.2)])]) = l.map fun x => [AV.sl 2 (x.map linRow)] := by
  rw [drr_eq, List.map_map]; refine List.map_congr_left fun x _ => ?_; simp

theorem c6 (x y : ModD) : Holds Try.prog 6 [modA x, modA y] (fun r => r = .bool true) := by
  obtain ⟨n, rows, params, gs, res1, res2⟩ := x
  obtain ⟨n', rows', params', gs', res1', res2'⟩ := y
  refine holds_of_run Try.func6 a6_ok rfl (by simp [a6]) ?_
  simp [a6, modA, linsA, linssA]
  refine call_of (c22 ⟨n, rows, params, gs, (res1, res2)⟩ 1048576 (by omega)) (by simp [modA, linsA, linssA]) ?_
  rintro r rfl
  simp
  intro hsz
  obtain ⟨ok1, hb⟩ := szMod_ok (by omega) hsz
  generalize szMod ⟨n, rows, params, gs, (res1, res2)⟩ 1048576 = left at *
  refine call_of (c22 ⟨n', rows', params', gs', (res1', res2')⟩ left (by omega)) (by simp [modA, linsA, linssA]) ?_
  rintro r rfl
  simp
  intro hsz2
  obtain ⟨ok2, _⟩ := szMod_ok (by omega) hsz2
  refine callD_of (c24 ⟨n, rows, params, gs, (res1, res2)⟩ ok1) (by simp [modA, linsA, linssA]) ?_
  rintro r rfl
  simp [modU, linsU, linssU]
  refine callD_of (c24 ⟨n', rows', params', gs', (res1', res2')⟩ ok2) (by simp [modA, linsA, linssA]) ?_
  rintro r rfl
  simp [modU, linsU, linssU]
  refine callD_of (c23 ⟨n, rows, params, gs, (res1, res2)⟩ ⟨n', rows', params', gs', (res1', res2')⟩) (by simp [modA, linsA, linssA]) ?_
  rintro r rfl
  simp
  refine call_of (c24 ⟨n, rows, params, gs, (res1, res2)⟩ ok1) (by simp [modA, linsA, linssA]) ?_
  rintro r rfl
  simp [modU, linsU, linssU]
  refine call_of (c24 ⟨n', rows', params', gs', (res1', res2')⟩ ok2) (by simp [modA, linsA, linssA]) ?_
  rintro r rfl
  simp [modU, linsU, linssU]
  refine call_of (c25 ⟨n, rows, params, gs, (res1, res2)⟩ ⟨n', rows', params', gs', (res1', res2')⟩) (by simp [modA, linsA, linssA]) ?_
  rintro r rfl
  simp
  refine callD_of (c24 ⟨n, rows, params, gs, (res1, res2)⟩ ok1) (by simp [modA, linsA, linssA]) ?_
  rintro r rfl
  simp [modU, linsU, linssU]
  refine callD_of (c26 ⟨n, rows, params, gs, (res1, res2)⟩ ⟨n, rows, params, gs, (res1, res2)⟩) (by simp [modA, linsA, linssA]) ?_
  rintro r rfl
  simp
  refine callD_of (c24 ⟨n', rows', params', gs', (res1', res2')⟩ ok2) (by simp [modA, linsA, linssA]) ?_
  rintro r rfl
  simp [modU, linsU, linssU]
  refine callD_of (c26 ⟨n', rows', params', gs', (res1', res2')⟩ ⟨n', rows', params', gs', (res1', res2')⟩) (by simp [modA, linsA, linssA]) ?_
  rintro r rfl
  simp
end Go.Proofs.Ytlefdibgonpoaaa
