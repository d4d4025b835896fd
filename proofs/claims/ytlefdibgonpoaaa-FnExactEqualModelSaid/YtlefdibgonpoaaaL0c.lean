/- The parameters of the laws, opened: models. -/
import Derived.Test.YtlefdibgonpoaaaS15
import Derived.Test.YtlefdibgonpoaaaL0
namespace Go.Proofs.Ytlefdibgonpoaaa
open Go Go.RowKit Go.Proofs

theorem list_of_rows {α : Type} {P : List AV → Prop} {f : α → List AV} (hP : ∀ r, P r → ∃ x, r = f x) : ∀ {rows : List (List AV)}, (∀ r ∈ rows, P r) → ∃ l : List α, rows = l.map f
  | [], _ => ⟨[], rfl⟩
  | r :: rows, h => by
    obtain ⟨x, rfl⟩ := hP r (h _ List.mem_cons_self)
    obtain ⟨l, rfl⟩ := list_of_rows hP fun r hr => h r (List.mem_cons_of_mem _ hr)
    exact ⟨x :: l, rfl⟩

set_option maxRecDepth 100000 in
theorem lin_of {f : Nat} {r : List AV} (h : Row Try.prog (f + 3) 45 r) : ∃ x : LinD, r = linRow x := by
  obtain ⟨parts, rfl, g0⟩ := Row_struct Try.underlying45 h
  obtain ⟨x, m1, rfl, h0, g1⟩ := All2_cons g0
  obtain ⟨y, m2, rfl, h1, g2⟩ := All2_cons g1
  cases All2_nil g2
  obtain ⟨n, rfl, _⟩ := Row_int Try.underlying3 h0
  obtain ⟨l, rfl⟩ := ints_of Try.underlying22 Try.underlying3 (by kernel_rfl) h1
  exact ⟨(n, l), rfl⟩
set_option maxRecDepth 100000 in
theorem lins_of {f : Nat} {r : List AV} (h : Row Try.prog (f + 4) 40 r) : ∃ x : List LinD, r = [linsA x] := by
  obtain ⟨rows, rfl, _, hr⟩ := Row_slice Try.underlying40 h
  obtain ⟨l, rfl⟩ := list_of_rows (fun r h => lin_of h) hr
  exact ⟨l, by rw [show Try.prog.cellsOf 45 = 2 by kernel_rfl]; rfl⟩
set_option maxRecDepth 100000 in
theorem linss_of {f : Nat} {r : List AV} (h : Row Try.prog (f + 5) 43 r) : ∃ x : List (List LinD), r = [linssA x] := by
  obtain ⟨rows, rfl, _, hr⟩ := Row_slice Try.underlying43 h
  obtain ⟨l, rfl⟩ := list_of_rows (fun r h => lins_of h) hr
  exact ⟨l, by rw [show Try.prog.cellsOf 40 = 1 by kernel_rfl]; rfl⟩
set_option maxRecDepth 100000 in
theorem sys_of {f : Nat} {r : List AV} (h : Row Try.prog (f + 5) 42 r) : ∃ n l, r = [i64 n, linsA l] := by
  obtain ⟨parts, rfl, g0⟩ := Row_struct Try.underlying42 h
  obtain ⟨x, m1, rfl, h0, g1⟩ := All2_cons g0
  obtain ⟨y, m2, rfl, h1, g2⟩ := All2_cons g1
  cases All2_nil g2
  obtain ⟨n, rfl, _⟩ := Row_int Try.underlying3 h0
  obtain ⟨l, rfl⟩ := lins_of h1
  exact ⟨n, l, rfl⟩
set_option maxRecDepth 100000 in
theorem arg47 {a : AV} (h : ArgOf Try.prog 8 47 a) : ∃ x : ModD, a = modA x := by
  obtain ⟨row, rfl, h1⟩ := ArgOf_struct Try.underlying47 h
  obtain ⟨parts, rfl, g0⟩ := Row_struct Try.underlying47 h1
  obtain ⟨x, m1, rfl, h0, g1⟩ := All2_cons g0
  obtain ⟨y, m2, rfl, h1', g2⟩ := All2_cons g1
  obtain ⟨z, m3, rfl, h2, g3⟩ := All2_cons g2
  obtain ⟨u, m4, rfl, h3, g4⟩ := All2_cons g3
  cases All2_nil g4
  obtain ⟨n, l, rfl⟩ := sys_of h0
  obtain ⟨ps, rfl⟩ := lins_of h1'
  obtain ⟨gs, rfl⟩ := linss_of h2
  obtain ⟨⟨r1, r2⟩, rfl⟩ := lin_of h3
  exact ⟨⟨n, l, ps, gs, (r1, r2)⟩, rfl⟩
end Go.Proofs.Ytlefdibgonpoaaa
