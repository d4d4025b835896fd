/- The models of both ways are one. -/
import Derived.Test.YtilcageplifbgaaGreatKQ0
import Derived.Test.YtilcageplifbgaaGreatKG0
namespace Go.Proofs.YtilcageplifbgaaGreat
set_option linter.all false
open Go Go.RowKit Go.Proofs
theorem nd_dist : ∀ {l met : List Str}, distFrom met l = true → l.Nodup ∧ ∀ x ∈ l, x ∉ met
  | [], _, _ => ⟨List.nodup_nil, fun _ h => by cases h⟩
  | s :: l, met, h => by
    simp only [distFrom, Bool.and_eq_true, Bool.not_eq_true'] at h
    obtain ⟨h1, h2⟩ := nd_dist h.2
    have h3 := hasS_not.1 h.1
    refine ⟨List.nodup_cons.2 ⟨fun hs => h2 s hs (by simp), h1⟩, ?_⟩
    intro x hx
    rcases List.mem_cons.1 hx with rfl | hx
    · exact h3
    · exact fun hm => h2 x hx (List.mem_append_left _ hm)
theorem minus_var {n j : Nat} (hn : n ≤ 8) (hj : j < n) : (plusL (varL j n) (-1)).getD lin0 = minusL (varL j n) 1 := by
  rw [varL_eq hn hj]
  have h1 : okLin ⟨0, (List.replicate n 0).set j 1⟩ (((List.replicate n (0 : Int)).set j 1).length : Nat) = true := by
    unfold okLin
    simp only [Bool.and_eq_true, decide_eq_true_eq, List.all_eq_true]
    refine ⟨⟨⟨by simp [inR]; omega, by simp⟩, by decide⟩, ?_⟩
    intro y hy
    rcases List.mem_or_eq_of_mem_set hy with hy | rfl
    · rw [(List.mem_replicate.1 hy).2]; decide
    · decide
  unfold plusL minusL
  simp only [h1]
  have h2 : addL 0 (-1) = (-1, true) := by decide
  have h3 : IntKind.i64.wrap (0 - 1) = -1 := by decide
  simp only [h2, h3]
  simp
theorem fn_in {p : DProgram} {name : Str} {f : DFunction} (hp : progOk p = true) (hf : findFn p.Functions name = some f) : f.Params.length ≤ 2 ∧ f.Params.Nodup ∧ (∀ l ∈ f.Pre, okLin l f.Params.length = true) ∧ f.Pre.length ≤ 2 := by
  unfold progOk at hp
  simp only [Bool.and_eq_true, fnsFrom_eq, List.all_eq_true] at hp
  have := hp.1.1.2.1 f (List.mem_of_find?_eq_some hf)
  unfold fnOk distB at this
  simp only [Bool.and_eq_true, decide_eq_true_eq, List.all_eq_true] at this
  obtain ⟨⟨⟨⟨_, h2⟩, _, h3⟩, h4⟩, h5⟩ := this
  exact ⟨h2, (nd_dist h3).1, h5, h4⟩
theorem dom_self {p : DProgram} {name : Str} {f : DFunction} (hp : progOk p = true) (hf : findFn p.Functions name = some f) : domL f f.Params.length = lrows f.Params.length f.Params 0 ++ f.Pre := by
  obtain ⟨_, _, h, _⟩ := fn_in hp hf
  unfold domL
  congr 1
  conv => rhs; rw [← List.map_id f.Pre]
  refine List.map_congr_left fun l hl => widen_self ?_
  have := (okLin_len (h l hl)).1
  omega
end Go.Proofs.YtilcageplifbgaaGreat
