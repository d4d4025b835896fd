/- Cursors: what draws data; a call that turns the cursor alone. -/
import Derived.Test.YtoejpoioleffpaaR47
namespace Go.Proofs.Ytoejpoioleffpaa
set_option linter.all false
open Go Go.RowKit

/-- The cells of a cursor: its bytes, how many are spent, a number. -/
def CurC (code : List (List AV)) (c : List AV) : Prop := code.length ≤ LIM ∧ ∃ i hh : Int, 0 ≤ i ∧ i ≤ code.length ∧ c = [.sl 1 code, .int .i64 i, .int .i64 hh]
def curB (c : List AV) : Option Blk := some ⟨true, 3, [c]⟩
theorem CurC.ids {code : List (List AV)} {c : List AV} (hc : CurC code c) (n : Nat) : ∀ r ∈ [c], idbl n r := by
  obtain ⟨_, i, hh, _, _, rfl⟩ := hc
  simp [idbl, idb]
/-- A call that turns a cursor, and gives back a tree of its own. -/
theorem acall_cur {P : Program} {f : FuncId} {as : List AV} {h : Heap} {n id : Nat} {c : List AV} {code : List (List AV)} {K : AV → Heap → Nat → Prop} (hcl : callable P f = true) (hid : h id = curB c)
    (hA : id < n → (∀ i, n ≤ i → h i = Option.none) → ACall P f as h n fun r h' _ => ∃ t I c', GR h' t r I ∧ I.Nodup ∧ (∀ i ∈ I, n ≤ i) ∧ clean t = true ∧ CurC code c' ∧ h' id = curB c' ∧ (∀ i, i < n → i ≠ id → h' i = h i) ∧
      K (sub t n) (addAll (upd h id (curB c')) n (col t)) (n + (col t).length)) : ACall P f as h n K := by
  refine acall_pack hcl fun hz => ?_
  have hlt : id < n := by
    rcases Nat.lt_or_ge id n with h1 | h1
    · exact h1
    · rw [hz id h1] at hid; cases hid
  refine (hA hlt hz).mono ?_
  rintro r h' n' ⟨t, I, c', g1, g2, g3, g4, g5, g6, g7, hk⟩
  refine ⟨t, I, upd h id (curB c'), g1, g2, g3, g4, ?_, ?_, ?_, hk⟩
  · intro i hi
    by_cases he : i = id
    · subst he; rw [upd_same, g6]
    · rw [upd_other _ _ _ _ he, g7 i hi he]
  · intro i hi
    rw [upd_other _ _ _ _ (by omega)]; exact hz i hi
  · intro i hi
    by_cases he : i = id
    · subst he; exact .inr ⟨_, by rw [upd_same]; rfl, g5.ids n⟩
    · exact .inl (upd_other _ _ _ _ he)
def scal1 : AV → Bool
  | .int .. | .bool _ | .str _ => true
  | _ => false
/-- The same, where it gives back a number, a truth, a text. -/
theorem acall_curS {P : Program} {f : FuncId} {as : List AV} {h : Heap} {n id : Nat} {c : List AV} {code : List (List AV)} {K : AV → Heap → Nat → Prop} (hcl : callable P f = true) (hid : h id = curB c)
    (hA : id < n → ACall P f as h n fun r h' _ => ∃ c', scal1 r = true ∧ CurC code c' ∧ h' id = curB c' ∧ (∀ i, i < n → i ≠ id → h' i = h i) ∧ K r (upd h id (curB c')) n) : ACall P f as h n K := by
  refine acall_cur (code := code) hcl hid fun hlt _ => ?_
  refine (hA hlt).mono ?_
  rintro r h' n' ⟨c', g1, g2, g3, g4, hk⟩
  refine ⟨r, [], c', ?_, List.nodup_nil, by simp, ?_, g2, g3, g4, ?_⟩ <;> unfold scal1 at g1 <;> split at g1 <;> first | (simp [GR]; done) | (simp [clean]; done) | (simpa [sub, col, addAll] using hk) | cases g1

/-- The low eight bits. -/
theorem bits_255 (x : Int) : 0 ≤ bits .and .i64 x 255 ∧ bits .and .i64 x 255 < 256 := by
  have h : (BitVec.ofInt 64 x &&& BitVec.ofInt 64 255).toNat < 256 := by
    rw [BitVec.toNat_and]
    have := Nat.and_le_right (n := (BitVec.ofInt 64 x).toNat) (m := (BitVec.ofInt 64 255).toNat)
    have h2 : (BitVec.ofInt 64 255).toNat = 255 := by decide
    omega
  have hk : bits .and .i64 x 255 = IntKind.i64.wrap ((BitVec.ofInt 64 x &&& BitVec.ofInt 64 255).toNat : Int) := rfl
  rw [hk, wrap64 (by omega)]
  omega
def codeR (l : List UInt8) : List (List AV) := l.map fun b => [.int .u8 b.toNat]
end Go.Proofs.Ytoejpoioleffpaa
