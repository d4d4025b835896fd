/- Aggregates, new rows, appends, calls. -/
import Derived.Test.YtlefdibgonpoaaaR14
namespace Go.Proofs.Ytlefdibgonpoaaa
open Go Go.RowKit

section
variable {P : Program} {base : Nat} {w0 w : World} {L : Nat → Option Loc} {N : Nat} {F : Nat → List Nat} {E : List Nat} {h : Heap} {s : Nat → AV} {a : Act} {K : AV → Heap → Nat → Prop}

/-- One part of a struct: its place, and the operand that is laid there. -/
def compPart (P : Program) (fields : Array Field) (p : Nat × Operand) : Option (Nat × Nat × Opd) :=
  match fields[p.1]? with
  | some f => match P.info? f.type, compX P f.type p.2 with
    | some i, some x => some (f.offset, i.size, x)
    | _, _ => Option.none
  | Option.none => Option.none

theorem mapM_zip {α β : Type} (f : α → Option β) : ∀ (l : List α) (m : List β), l.mapM f = some m → m.length = l.length ∧ ∀ (i : Nat) (x : α) (y : β), l[i]? = some x → m[i]? = some y → f x = some y
  | [], m, h => by simp at h; subst h; simp
  | x :: l, m, h => by
    rw [List.mapM_cons] at h
    simp only [Option.bind_eq_bind, Option.bind_eq_some_iff, Option.pure_def, Option.some.injEq] at h
    obtain ⟨y, hy, m', hm, rfl⟩ := h
    obtain ⟨h1, h2⟩ := mapM_zip f l m' hm
    refine ⟨by simp [h1], ?_⟩
    intro i u v hu hv
    cases i with
    | zero => simp at hu hv; subst hu; subst hv; exact hy
    | succ i => exact h2 i u v (by simpa using hu) (by simpa using hv)

theorem mapM_sizes (P : Program) (w : World) : ∀ (fs : List Field), (∀ f ∈ fs, ∃ i, P.info? f.type = some i) →
    ∃ out : List (Nat × Nat), (fs.mapM fun (f : Field) => (do pure (f.offset, ← sizeOf f.type) : Sem (Nat × Nat))).run P w = .ok out w ∧ out.length = fs.length ∧
      ∀ (j : Nat) (f : Field) (i : TypeInfo), fs[j]? = some f → P.info? f.type = some i → out[j]? = some (f.offset, i.size)
  | [], _ => ⟨[], by simp, rfl, by simp⟩
  | f :: fs, h => by
    obtain ⟨i, hi⟩ := h f (by simp)
    obtain ⟨out, h1, h2, h3⟩ := mapM_sizes P w fs (fun g hg => h g (by simp [hg]))
    refine ⟨(f.offset, i.size) :: out, ?_, by simp [h2], ?_⟩
    · rw [List.mapM_cons]
      simp [sizeOf, typeInfo, hi]
      simp [sizeOf, typeInfo] at h1
      simp [h1]
    · intro j g k hj hk
      cases j with
      | zero => simp at hj; subst hj; rw [hi] at hk; cases hk; rfl
      | succ j => exact h3 j g k (by simpa using hj) hk

theorem ok_build {t : TypeId} {i : TypeInfo} {z : List AV} {zv : Value} {fields : Array Field} {parts : Array (Nat × Operand)} {ps : List (Nat × Nat × Opd)} (H : HRel base w0 w L N F [] h) (hs : SRel w L N s a.tmps)
    (hi : P.info? t = some i) (hz : i.zero = some zv) (hm : matchL z zv.cells.toList = true) (ht : P.underlying t = some (.struct fields)) (hfs : fields.toList.all (fun f => (P.info? f.type).isSome) = true)
    (hp : parts.toList.mapM (compPart P fields) = some ps)
    (hK : aop P s h N K (.build z ps)) : Gives P (do pure (.value (← Instr.build t (parts.map fun (j, x) => (j, a.eval x))))) w (Post base w0 w L N K) := by
  simp only [aop] at hK
  obtain ⟨hall, hK⟩ := hK
  unfold onO at hK
  split at hK
  · rename_i cs hcs
    obtain ⟨hl, h1⟩ := VRl_matchL (w := w) (L := L) (N := N) hm
    obtain ⟨hlen, hget⟩ := mapM_zip _ _ _ hp
    obtain ⟨out, r1, r2, r3⟩ := mapM_sizes P w fields.toList (fun f hf => by
      have := List.all_eq_true.1 hfs f hf
      exact Option.isSome_iff_exists.1 this)
    let rs : List ((Nat × Nat × AV) × (Nat × Value)) := (ps.map fun p => (p.1, p.2.1, ev s p.2.2)).zip (parts.toList.map fun p => (p.1, a.eval p.2))
    have e1 : rs.map (·.1) = ps.map fun p => (p.1, p.2.1, ev s p.2.2) := List.map_fst_zip (by simp [hlen])
    have e2 : rs.map (·.2) = parts.toList.map fun p => (p.1, a.eval p.2) := List.map_snd_zip (by simp [hlen])
    rw [← e1] at hcs
    obtain ⟨o, f1, f2⟩ := fill_sound (w := w) (L := L) (N := N) (fun j => out[j]?) rs z zv.cells cs hl (by
      rintro ⟨⟨off, sz, x⟩, ⟨j, v⟩⟩ hr
      obtain ⟨q, hq⟩ := List.mem_iff_getElem?.1 hr
      rw [List.getElem?_zip_eq_some] at hq
      obtain ⟨q1, q2⟩ := hq
      simp only [List.getElem?_map, Option.map_eq_some_iff] at q1 q2
      obtain ⟨p, p1, p2⟩ := q1
      obtain ⟨u, u1, u2⟩ := q2
      simp only [Prod.mk.injEq] at p2 u2
      obtain ⟨rfl, rfl, rfl⟩ := p2
      obtain ⟨rfl, rfl⟩ := u2
      have hc := hget q u p u1 p1
      have hcell := List.all_eq_true.1 hall p (List.mem_of_getElem? p1)
      unfold compPart at hc
      split at hc
      · rename_i f hf
        split at hc
        · rename_i ii x' g1 g2
          cases hc
          refine ⟨?_, compX_sound g2 hs, ?_, ?_⟩
          · exact r3 u.1 f ii (by rw [Array.getElem?_toList]; exact hf) g1
          · intro hx; simp only at hcell hx; rw [hx] at hcell; simp [cellsOf, isCell] at hcell
          · intro vs hx; simp only at hcell hx; rw [hx] at hcell; simp [cellsOf, isCell] at hcell
        · cases hc
      · cases hc) hcs
    refine .of_value (v := .agg o) (w' := w) ?_ (Post.same H (by simp only [VR]; exact ⟨o, rfl, f2⟩) hK)
    have hmap : (fields.mapM fun (f : Field) => (do pure (f.offset, ← sizeOf f.type) : Sem (Nat × Nat))).run P w = .ok out.toArray w := by
      rw [Array.mapM_eq_mapM_toList]
      simp only [map_eq_pure_bind, Sem.run_bind, r1, Result.andThen_ok, Sem.run_pure]
    have hmap2 : (Array.mapM (fun (f : Field) => Prod.mk f.offset <$> sizeOf f.type) fields).run P w = .ok out.toArray w := by simpa using hmap
    rw [e2] at f1
    simp only [Instr.build, Sem.run_bind, zeroValue, typeInfo, run_underlying ht]
    simp [hi, hz, hmap2, f1]
  · exact hK.elim

end

end Go.Proofs.Ytlefdibgonpoaaa
