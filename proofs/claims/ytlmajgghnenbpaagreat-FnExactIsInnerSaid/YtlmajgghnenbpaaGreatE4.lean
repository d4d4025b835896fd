/- Contracts: ReachableFrom of the reference. -/
import Derived.Test.YtlmajgghnenbpaaGreatE3
namespace Go.Proofs.YtlmajgghnenbpaaGreat
set_option linter.all false
open Go Go.RowKit Go.Proofs
def a106 : AFn :=
⟨23, [(.t 2)], (.seq 
 (.reg [⟨some 1, (.boxv (.t 0)), no⟩, ⟨some 2, (.mv (.k (.nil 1))), no⟩]) (.seq 
 (.reg [⟨some 5, (.bsl 1 []), no⟩, ⟨some 3, (.mv (.t 5)), no⟩]) (.seq (.seq 
 (.reg [⟨some 4, (.mv (.k (.int .i64 0))), no⟩]) (.blk 0 (.loop (.seq (.seq 
 (.reg [⟨some 6, (.mv (.t 4)), no⟩, ⟨some 7, (.fld 0 (.t 1)), no⟩, ⟨some 8, (.ld false 1 (.t 7)), no⟩, ⟨some 9, (.len false (.t 8)), no⟩, ⟨some 10, (.bin .lss (.t 6) (.t 9)), no⟩]) (.cond (.t 10) .skip (.exit 0))) (.seq (.blk 1 
 (.reg [⟨some 13, (.mv (.t 3)), no⟩, ⟨some 14, (.fld 0 (.t 1)), no⟩, ⟨some 15, (.ld false 1 (.t 14)), no⟩, ⟨some 16, (.mv (.t 4)), no⟩, ⟨some 17, (.ixa 4 (.t 15) (.t 16)), no⟩, ⟨some 18, (.fld 0 (.t 17)), no⟩, ⟨some 19, (.ld false 1 (.t 18)), no⟩, ⟨some 20, (.bsl 1 [(.t 19)]), no⟩, ⟨some 21, (.app 16 1 (.t 13) (.t 20)), no⟩, ⟨some 3, (.mv (.t 21)), no⟩])) 
 (.reg [⟨some 11, (.mv (.t 4)), no⟩, ⟨some 12, (.bin .add (.t 11) (.k (.int .i64 1))), no⟩, ⟨some 4, (.mv (.t 12)), no⟩])))))) (.seq 
 (.reg [⟨some 22, (.mv (.t 3)), no⟩, ⟨some 2, (.mv (.t 22)), no⟩]) .ret))))⟩
theorem a106_ok : compFn Tryz.prog Tryz.f106 = some a106 := by kernel_rfl

def a34 : AFn :=
⟨93, [(.t 4)], (.seq 
 (.reg [⟨some 2, (.boxv (.t 0)), no⟩, ⟨some 4, (.mv (.k (.nil 1))), no⟩]) (.seq 
 (.reg [⟨some 12, (.ld true 2 (.t 2)), no⟩, ⟨some 13, (.call (.k (.fn (.func 106) [] [])) [(.t 12)]), no⟩, ⟨some 5, (.mv (.t 13)), no⟩]) (.seq 
 (.reg [⟨some 14, (.ld true 2 (.t 2)), no⟩, ⟨some 15, (.call (.k (.fn (.func 23) [] [])) [(.t 14)]), no⟩, ⟨some 6, (.mv (.t 15)), no⟩]) (.seq 
 (.reg [⟨some 16, (.bsl 1 []), no⟩, ⟨some 7, (.mv (.t 16)), no⟩]) (.seq (.seq 
 (.reg [⟨some 17, (.ld true 2 (.t 2)), no⟩, ⟨some 18, (.call (.k (.fn (.func 90) [] [])) [(.t 17)]), no⟩, ⟨some 19, (.un .not (.t 18)), no⟩, ⟨some 20, (.mv (.t 19)), no⟩, ⟨some 21, (.mv (.t 5)), (some (20, false))⟩, ⟨some 22, (.mv (.t 1)), (some (20, false))⟩, ⟨some 23, (.call (.k (.fn (.func 107) [] [])) [(.t 21), (.t 22)]), (some (20, false))⟩, ⟨some 24, (.bin .lss (.t 23) (.k (.int .i64 0))), (some (20, false))⟩, ⟨some 25, (.pick (.t 20) (.k (.bool true)) (.t 24)), no⟩]) (.cond (.t 25) (.seq 
 (.reg [⟨some 26, (.mv (.t 7)), no⟩, ⟨some 4, (.mv (.t 26)), no⟩]) .ret) .skip)) (.seq 
 (.reg [⟨some 27, (.mv (.t 1)), no⟩, ⟨some 28, (.bsl 1 [(.t 27)]), no⟩, ⟨some 8, (.mv (.t 28)), no⟩]) (.seq (.seq 
 (.reg [⟨some 9, (.mv (.k (.int .i64 0))), no⟩]) (.blk 0 (.loop (.seq (.seq 
 (.reg [⟨some 29, (.mv (.t 9)), no⟩, ⟨some 30, (.mv (.t 8)), no⟩, ⟨some 31, (.len false (.t 30)), no⟩, ⟨some 32, (.bin .lss (.t 29) (.t 31)), no⟩]) (.cond (.t 32) .skip (.exit 0))) (.seq (.blk 1 (.seq 
 (.reg [⟨some 10, (.mv (.k (.int .i64 0))), no⟩]) (.blk 2 (.loop (.seq (.seq 
 (.reg [⟨some 35, (.mv (.t 10)), no⟩, ⟨some 36, (.mv (.t 6)), no⟩, ⟨some 37, (.len false (.t 36)), no⟩, ⟨some 38, (.bin .lss (.t 35) (.t 37)), no⟩]) (.cond (.t 38) .skip (.exit 2))) (.seq (.blk 3 (.seq (.draw (.op ⟨some 41, (.ld true 2 (.t 2)), no⟩ (.op ⟨some 42, (.mv (.t 6)), no⟩ (.op ⟨some 43, (.mv (.t 10)), no⟩ (.op ⟨some 44, (.ixa 2 (.t 42) (.t 43)), no⟩ (.op ⟨some 45, (.ld true 2 (.t 44)), no⟩ (.op ⟨some 47, (.mv (.t 8)), no⟩ (.op ⟨some 48, (.mv (.t 9)), no⟩ (.op ⟨some 49, (.ixa 1 (.t 47) (.t 48)), no⟩ (.op ⟨some 50, (.ld false 1 (.t 49)), no⟩ (.op ⟨some 46, (.call (.k (.fn (.func 108) [] [])) [(.t 41), (.t 45)]), no⟩ (.op ⟨some 51, (.bin .eql (.t 46) (.t 50)), no⟩ (.op ⟨some 52, (.mv (.t 51)), no⟩ (.op ⟨some 53, (.mv (.t 8)), (some (52, true))⟩ (.op ⟨some 54, (.ld true 2 (.t 2)), (some (52, true))⟩ (.op ⟨some 55, (.mv (.t 6)), (some (52, true))⟩ (.op ⟨some 56, (.mv (.t 10)), (some (52, true))⟩ (.op ⟨some 57, (.ixa 2 (.t 55) (.t 56)), (some (52, true))⟩ (.op ⟨some 58, (.ld true 2 (.t 57)), (some (52, true))⟩ (.op ⟨some 59, (.call (.k (.fn (.func 109) [] [])) [(.t 54), (.t 58)]), (some (52, true))⟩ (.op ⟨some 60, (.call (.k (.fn (.func 107) [] [])) [(.t 53), (.t 59)]), (some (52, true))⟩ (.op ⟨some 61, (.bin .lss (.t 60) (.k (.int .i64 0))), (some (52, true))⟩ (.op ⟨some 62, (.pick (.t 52) (.t 61) (.k (.bool false))), no⟩ .fin))))))))))))))))))))))) (.cond (.t 62) (.draw (.op ⟨some 63, (.mv (.t 8)), no⟩ (.op ⟨some 64, (.ld true 2 (.t 2)), no⟩ (.op ⟨some 65, (.mv (.t 6)), no⟩ (.op ⟨some 66, (.mv (.t 10)), no⟩ (.op ⟨some 67, (.ixa 2 (.t 65) (.t 66)), no⟩ (.op ⟨some 68, (.ld true 2 (.t 67)), no⟩ (.op ⟨some 69, (.call (.k (.fn (.func 109) [] [])) [(.t 64), (.t 68)]), no⟩ (.hop ⟨some 70, (.bsl 1 [(.t 69)]), no⟩ [] (.hop ⟨some 71, (.app 16 1 (.t 63) (.t 70)), no⟩ [] (.hop ⟨some 8, (.mv (.t 71)), no⟩ [] .fin))))))))))) .skip))) 
 (.reg [⟨some 39, (.mv (.t 10)), no⟩, ⟨some 40, (.bin .add (.t 39) (.k (.int .i64 1))), no⟩, ⟨some 10, (.mv (.t 40)), no⟩]))))))) 
 (.reg [⟨some 33, (.mv (.t 9)), no⟩, ⟨some 34, (.bin .add (.t 33) (.k (.int .i64 1))), no⟩, ⟨some 9, (.mv (.t 34)), no⟩])))))) (.seq (.seq 
 (.reg [⟨some 11, (.mv (.k (.int .i64 0))), no⟩]) (.blk 4 (.loop (.seq (.seq 
 (.reg [⟨some 72, (.mv (.t 11)), no⟩, ⟨some 73, (.mv (.t 5)), no⟩, ⟨some 74, (.len false (.t 73)), no⟩, ⟨some 75, (.bin .lss (.t 72) (.t 74)), no⟩]) (.cond (.t 75) .skip (.exit 4))) (.seq (.blk 5 (.seq 
 (.reg [⟨some 78, (.mv (.t 8)), no⟩, ⟨some 79, (.mv (.t 5)), no⟩, ⟨some 80, (.mv (.t 11)), no⟩, ⟨some 81, (.ixa 1 (.t 79) (.t 80)), no⟩, ⟨some 82, (.ld false 1 (.t 81)), no⟩, ⟨some 83, (.call (.k (.fn (.func 107) [] [])) [(.t 78), (.t 82)]), no⟩, ⟨some 84, (.bin .geq (.t 83) (.k (.int .i64 0))), no⟩]) (.cond (.t 84) 
 (.reg [⟨some 85, (.mv (.t 7)), no⟩, ⟨some 86, (.mv (.t 5)), no⟩, ⟨some 87, (.mv (.t 11)), no⟩, ⟨some 88, (.ixa 1 (.t 86) (.t 87)), no⟩, ⟨some 89, (.ld false 1 (.t 88)), no⟩, ⟨some 90, (.bsl 1 [(.t 89)]), no⟩, ⟨some 91, (.app 16 1 (.t 85) (.t 90)), no⟩, ⟨some 7, (.mv (.t 91)), no⟩]) .skip))) 
 (.reg [⟨some 76, (.mv (.t 11)), no⟩, ⟨some 77, (.bin .add (.t 76) (.k (.int .i64 1))), no⟩, ⟨some 11, (.mv (.t 77)), no⟩])))))) (.seq 
 (.reg [⟨some 92, (.mv (.t 7)), no⟩, ⟨some 4, (.mv (.t 92)), no⟩]) .ret)))))))))⟩
theorem a34_ok : compFn Tryz.prog Tryz.f34 = some a34 := by kernel_rfl



def SeenI (E : List (Str × Str)) (N : List Str) (a : Str) (M : List Str) (i : Nat) : Prop :=
  M.Nodup ∧ (∀ x ∈ M, x ∈ N ∧ RT E a x) ∧ a ∈ M ∧ i ≤ M.length ∧ ∀ x ∈ M.take i, ∀ y, (x, y) ∈ E → y ∈ M
theorem SeenI.len {E : List (Str × Str)} {N : List Str} {a : Str} {M : List Str} {i : Nat} (h : SeenI E N a M i) : M.length ≤ N.length := nodup_len h.1 fun x hx => (h.2.1 x hx).1
theorem SeenI.add {E : List (Str × Str)} {N : List Str} {a c y : Str} {M : List Str} {i : Nat} (h : SeenI E N a M i) (hc : c ∈ M) (hy : (c, y) ∈ E) (hyN : y ∈ N) (hyM : y ∉ M) : SeenI E N a (M ++ [y]) i := by
  obtain ⟨h1, h2, h3, h4, h5⟩ := h
  refine ⟨?_, ?_, List.mem_append_left _ h3, by simp; omega, ?_⟩
  · rw [List.nodup_append]
    exact ⟨h1, by simp, fun x hx z hz hxz => hyM (by rw [← List.mem_singleton.1 hz, ← hxz]; exact hx)⟩
  · intro x hx
    rcases List.mem_append.1 hx with hx | hx
    · exact h2 x hx
    · rw [List.mem_singleton.1 hx]; exact ⟨hyN, (h2 c hc).2.step hy⟩
  · intro x hx z hz
    rw [List.take_append_of_le_length h4] at hx
    exact List.mem_append_left _ (h5 x hx z hz)
theorem SeenI.next {E : List (Str × Str)} {N : List Str} {a c : Str} {M : List Str} {i : Nat} (h : SeenI E N a M i) (hc : M[i]? = some c) (hE : ∀ e ∈ E, e.1 = c → e.2 ∈ M) : SeenI E N a M (i + 1) := by
  obtain ⟨h1, h2, h3, h4, h5⟩ := h
  obtain ⟨hi, hci⟩ := List.getElem?_eq_some_iff.1 hc
  refine ⟨h1, h2, h3, hi, ?_⟩
  intro x hx y hy
  rw [List.take_succ_eq_append_getElem hi, hci] at hx
  rcases List.mem_append.1 hx with hx | hx
  · exact h5 x hx y hy
  · rw [List.mem_singleton.1 hx] at hy
    exact hE _ hy rfl
theorem SeenI.done {E : List (Str × Str)} {N : List Str} {a : Str} {M : List Str} (h : SeenI E N a M M.length) (x : Str) : x ∈ M ↔ RT E a x := by
  obtain ⟨h1, h2, h3, h4, h5⟩ := h
  rw [List.take_length] at h5
  exact ⟨fun hx => (h2 x hx).2, fun hx => hx.closed (S := fun z => z ∈ M) h3 fun u v huv hu => h5 u hu v huv⟩

theorem idx_ltS (l : List Str) (s : Str) : decide (idxFrom (fun x => x == s) l 0 < 0) = !hasS l s := by
  rw [← idx_has l s]
  by_cases h : idxFrom (fun x => x == s) l 0 < 0
  · have h3 : ¬ (0 ≤ idxFrom (fun x => x == s) l 0) := by omega
    simp [h, h3]
  · have h3 : 0 ≤ idxFrom (fun x => x == s) l 0 := by omega
    simp [h, h3]
theorem take_pairs {p : DProgram} {j : Nat} (hj : j < (edgesOf p).length) : ((edgesOf p).take (j + 1)).map (pairE p) = ((edgesOf p).take j).map (pairE p) ++ [pairE p (edgesOf p)[j]] := by
  rw [List.take_succ_eq_append_getElem hj, List.map_append]; rfl

set_option maxRecDepth 20000
set_option maxHeartbeats 2000000
theorem ks_l13Names (p : DProgram) (hp : wProgram p ≤ 1048576) : Holds Tryz.prog 106 [.agg (rAProgram p)] (fun x => x = .us 1 (strsR (namesP p))) := by
  have hfl : p.Functions.length ≤ 1048576 := by have := wL_len wFunction p.Functions; unfold wProgram wFunctionS at hp; omega
  refine holds_of_run Tryz.func106 a106_ok rfl (by simp [a106]) ?_
  simp [a106, rAProgram]
  generalize hT : namesP p = T
  have hTl : T.length = p.Functions.length := by rw [← hT]; simp [namesP]
  refine rL_forO [1] 4 p.Functions.length (fun i s h n => h 0 = some ⟨true, 2, [rAProgram p]⟩ ∧ ∃ (acc : List Str) (id : Nat), acc ++ T.drop i = T ∧ 0 < id ∧ id < n ∧ s 3 = .ref id 0 acc.length ∧ h id = some ⟨false, 1, strsR acc⟩) (by unfold LIM; omega) (by simp) ⟨by simp [rAProgram], [], 1, by simp, by simp, by simp, by simp, by simp [strsR]⟩ ?_ ?_
  · rintro i st h n R hi hg hk s4 hw ⟨e0, acc, id, hJ, hid0, hid, s3, eid⟩ hR hret _
    simp at hk
    have hin : i < T.length := by omega
    have hni : T[i] = (p.Functions[i]).Name := by subst hT; simp [namesP]
    rw [List.drop_eq_getElem_cons hin, hni] at hJ
    have hal := congrArg List.length hJ
    simp only [List.length_append, List.length_cons] at hal
    have z0 : ¬ id = n := by omega
    have z1 : ¬ id = n + 1 := by omega
    have z2 : ¬ n + 1 = id := by omega
    have z3 : ¬ n = id := by omega
    have z4 : ¬ 0 = id := by omega
    have z5 : ¬ 0 = n := by omega
    have z6 : ¬ n = 0 := by omega
    have z7 : ¬ id = 0 := by omega
    simp [hk, s4, hi, e0, rAProgram, rAFunction, s3, eid, z0, z1, z2, z3, z4, z5, z6, z7, hw]
    intro _
    refine ⟨by unfold LIM; omega, ?_⟩
    exact hR _ _ _ (by simp [hk]) (by simp) ⟨by simp [e0, z0, z1, z2, z3, z4, z5, z6, z7, rAProgram], acc ++ [(p.Functions[i]).Name], n + 1, by simpa using hJ, by omega, by omega, by simp, by simp [strsR, List.take_of_length_le]⟩
  rintro st h n R hk s4 ⟨e0, acc, id, hJ, hid0, hid, s3, eid⟩ hret hX
  simp at hk
  rw [List.drop_eq_nil_of_le (by omega), List.append_nil] at hJ
  subst hJ
  simp [hk, s4, e0, rAProgram]
  intro _
  refine hX _ _ _ _ ?_
  simp [s3, eid]

theorem ks_ReachableFrom (p : DProgram) (hp : wProgram p ≤ 1048576) (name : Str) : Holds Tryz.prog 34 [.agg (rAProgram p), .str name] (fun x => x = .us 1 (strsR (reachP p name))) := by
  have hel := edgesOf_len p hp
  have hNl : (namesP p).length = p.Functions.length := by simp [namesP]
  refine holds_of_run Tryz.func34 a34_ok rfl (by simp [a34]) ?_
  simp [a34, rAProgram]
  first | refine callD_of (ks_l13Names p hp) (by simp [rAProgram]) ?_ | refine call_of (ks_l13Names p hp) (by simp [rAProgram]) ?_ | refine callD_of (ks_l13Names p hp) rfl ?_ | refine call_of (ks_l13Names p hp) rfl ?_
  rintro r rfl
  simp
  first | refine callD_of (ks_EdgesOf p hp) (by simp [rAProgram]) ?_ | refine call_of (ks_EdgesOf p hp) (by simp [rAProgram]) ?_ | refine callD_of (ks_EdgesOf p hp) rfl ?_ | refine call_of (ks_EdgesOf p hp) rfl ?_
  rintro r rfl
  simp
  first | refine callD_of (ks_IsValidProgram p hp) (by simp [rAProgram]) ?_ | refine call_of (ks_IsValidProgram p hp) (by simp [rAProgram]) ?_ | refine callD_of (ks_IsValidProgram p hp) rfl ?_ | refine call_of (ks_IsValidProgram p hp) rfl ?_
  rintro r rfl
  unfold reachP
  cases h1 : progOk p
  · simp [strsR]
  simp
  have ht : List.take p.Functions.length (strsR (namesP p)) = strsR (namesP p) := List.take_of_length_le (by simp [strsR, namesP])
  have ht' : List.take (namesP p).length (strsR (namesP p)) = strsR (namesP p) := List.take_of_length_le (by simp [strsR])
  first | refine callD_of (ks_IndexOf (namesP p) name) (by simp [ht, ht', hNl]) ?_ | refine call_of (ks_IndexOf (namesP p) name) (by simp [ht, ht', hNl]) ?_ | refine callD_of (ks_IndexOf (namesP p) name) rfl ?_ | refine call_of (ks_IndexOf (namesP p) name) rfl ?_
  rintro r rfl
  have g1 := idx_has (namesP p) name
  cases h2 : hasS (namesP p) name
  · rw [h2] at g1
    simp at g1
    simp [g1, strsR]
  rw [h2] at g1
  simp at g1
  have g2 : ¬ idxFrom (fun x => x == name) (namesP p) 0 < 0 := by omega
  simp [g1, g2]
  obtain ⟨f1, f2, f3, f4⟩ := progOk_facts h1
  have hEE : pairsE p = (edgesOf p).map (pairE p) := by rw [pairsE_def]; unfold edgesOf; rw [h1]; rfl
  have hE2 : ∀ e ∈ pairsE p, e.2 ∈ namesP p := fun e he => (f2 e he).2
  have hnm : name ∈ namesP p := hasS_iff.1 h2
  generalize hRN : reachN (pairsE p) (namesP p) name = T
  refine rL_whileO (fun m s h n => 3 < n ∧ s 2 = .ptr 0 0 0 ∧ s 5 = .ref 1 0 (namesP p).length ∧ s 6 = .ref 2 0 (edgesOf p).length ∧ s 7 = .ref 3 0 0 ∧ h 0 = some ⟨true, 2, [rAProgram p]⟩ ∧ h 1 = some ⟨false, 1, strsR (namesP p)⟩ ∧ h 2 = some ⟨false, 2, (edgesOf p).map rUEdge⟩ ∧ h 3 = some ⟨false, 1, []⟩ ∧ ∃ (M : List Str) (i id : Nat), m = (namesP p).length - i ∧ SeenI (pairsE p) (namesP p) name M i ∧ s 9 = .int .i64 i ∧ 3 < id ∧ id < n ∧ s 8 = .ref id 0 M.length ∧ h id = some ⟨false, 1, strsR M⟩) ((namesP p).length) ?_ ?_
  · refine ⟨by simp, by simp, by simp, by simp, by simp, by simp [rAProgram], by simp, by simp, by simp, [name], 0, 4, by simp, ?_, by simp, by simp, by simp, by simp, by simp [strsR]⟩
    exact ⟨by simp, fun x hx => by rw [List.mem_singleton.1 hx]; exact ⟨hnm, .refl _⟩, by simp, by simp, by simp⟩
  rintro m st h n R ⟨hn, s2, s5, s6, s7, e0, e1, e2, e3, M, i, id, rfl, hS, s9, hid3, hid, s8, eid⟩ hR hret hX
  have hMl := hS.len
  by_cases hi : i < M.length
  · refine rC_seqI (rC_cut [2, 5, 6, 7, 8, 9] (fun s => s 32 = .bool true) (by simp [s9, s8, eid, hi]) ?_)
    intro st1 hk1 s32
    simp at hk1
    refine rC_pass1 s32 (rC_seqI (rC_blkI ?_))
    simp
    have hw0 : IntKind.i64.wrap ((i : Int) + 1) = (i : Int) + 1 := wrap64 (by omega)
    refine rL_forO [2, 5, 6, 7, 9] 10 (edgesOf p).length (fun j s h' n' => 3 < n' ∧ h' 0 = some ⟨true, 2, [rAProgram p]⟩ ∧ h' 1 = some ⟨false, 1, strsR (namesP p)⟩ ∧ h' 2 = some ⟨false, 2, (edgesOf p).map rUEdge⟩ ∧ h' 3 = some ⟨false, 1, []⟩ ∧ ∃ (X : List Str) (id' : Nat), SeenI (pairsE p) (namesP p) name X i ∧ X[i]? = some M[i] ∧ (∀ e ∈ ((edgesOf p).take j).map (pairE p), e.1 = M[i] → e.2 ∈ X) ∧ 3 < id' ∧ id' < n' ∧ s 8 = .ref id' 0 X.length ∧ h' id' = some ⟨false, 1, strsR X⟩) (by unfold LIM; omega) (by simp) ⟨hn, e0, e1, e2, e3, M, id, hS, List.getElem?_eq_getElem hi, by simp, hid3, hid, by simp [hk1, s8], eid⟩ ?_ ?_
    · rintro j st2 h2 n2 R2 hj hjg hk2 s10 hw ⟨hn2, b0, b1, b2, b3, X, id', hSX, hXi, hXE, hid3', hid', s8', eid'⟩ hR2 hret2 _
      simp at hk2
      obtain ⟨a, b, ha, hb, he, hf, ht0⟩ := edgesOf_at hj
      obtain ⟨hiX, hXv⟩ := List.getElem?_eq_some_iff.1 hXi
      have hpe : pairE p (edgesOf p)[j] = ((p.Rules[a]).Func, ((p.Rules[a]).Calls[b]).Func) := by rw [he]; unfold pairE; rw [hf, ht0]
      have hpm : ((p.Rules[a]).Func, ((p.Rules[a]).Calls[b]).Func) ∈ pairsE p := by rw [hEE]; exact List.mem_map.2 ⟨_, List.getElem_mem hj, hpe⟩
      have htX : List.take X.length (strsR X) = strsR X := List.take_of_length_le (by simp [strsR])
      refine rC_seqI (rC_cut [2, 5, 6, 7, 8, 9, 10] (fun s => s 38 = .bool true) (by simp [hk2, hk1, s6, s10, hj, b2]) ?_)
      intro st3 hk3 s38
      simp at hk3
      refine rC_pass1 s38 (rC_seqI (rC_blkI ?_))
      refine rC_cut [2, 5, 6, 7, 8, 9, 10] (fun s => s 62 = .bool (decide ((p.Rules[a]).Func = M[i]) && !hasS X ((p.Rules[a]).Calls[b]).Func)) ?_ ?_
      · simp [hk3, hk2, hk1, s2, s6, s10, s9, s8', hj, b2, b0, eid', hiX, hXv, he, rUEdge, rAProgram]
        first | refine callD_of (ks_l13From p ha (k := b)) (by simp [rAProgram, rAEdge]) ?_ | refine call_of (ks_l13From p ha (k := b)) (by simp [rAProgram, rAEdge]) ?_ | refine callD_of (ks_l13From p ha (k := b)) rfl ?_ | refine call_of (ks_l13From p ha (k := b)) rfl ?_
        rintro r rfl
        by_cases c1 : (p.Rules[a]).Func = M[i]
        · simp [c1, hk3, hk2, hk1, s2, s6, s10, s9, s8', hj, b2, b0, eid', hiX, hXv, he, rUEdge, rAProgram]
          first | refine callD_of (ks_l13To p ha hb) (by simp [rAProgram, rAEdge]) ?_ | refine call_of (ks_l13To p ha hb) (by simp [rAProgram, rAEdge]) ?_ | refine callD_of (ks_l13To p ha hb) rfl ?_ | refine call_of (ks_l13To p ha hb) rfl ?_
          rintro r rfl
          simp [hk3, hk2, hk1, s8']
          first | refine callD_of (ks_IndexOf X ((p.Rules[a]).Calls[b]).Func) (by simp [htX, eid']) ?_ | refine call_of (ks_IndexOf X ((p.Rules[a]).Calls[b]).Func) (by simp [htX, eid']) ?_ | refine callD_of (ks_IndexOf X ((p.Rules[a]).Calls[b]).Func) rfl ?_ | refine call_of (ks_IndexOf X ((p.Rules[a]).Calls[b]).Func) rfl ?_
          rintro r rfl
          have g3 := idx_ltS X ((p.Rules[a]).Calls[b]).Func
          simp [g3]
        · simp [c1, hk3, hk2, hk1, s2, s6, s10, s9, s8', hj, b2, b0, eid', hiX, hXv, he, rUEdge, rAProgram]
      intro st4 hk4 s62
      simp at hk4
      have z0 : ¬ id' = n2 := by omega
      have z1 : ¬ id' = n2 + 1 := by omega
      have z2 : ¬ n2 + 1 = id' := by omega
      have z3 : ¬ n2 = id' := by omega
      have q0 : ¬ 0 = n2 := by omega
      have q1 : ¬ 1 = n2 := by omega
      have q2 : ¬ 2 = n2 := by omega
      have q3 : ¬ 3 = n2 := by omega
      have q4 : ¬ n2 = 0 := by omega
      have q5 : ¬ n2 = 1 := by omega
      have q6 : ¬ n2 = 2 := by omega
      have q7 : ¬ n2 = 3 := by omega
      have r0 : ¬ 0 = id' := by omega
      have r1 : ¬ 1 = id' := by omega
      have r2 : ¬ 2 = id' := by omega
      have r3 : ¬ 3 = id' := by omega
      by_cases c1 : (p.Rules[a]).Func = M[i]
      · cases c2 : hasS X ((p.Rules[a]).Calls[b]).Func
        · rw [c2, decide_eq_true c1] at s62
          simp at s62
          have hXN := hSX.len
          have hfl3 : (namesP p).length ≤ 3 := by omega
          simp [hk4, hk3, hk2, hk1, s62, s2, s6, s10, s8', hj, b2, b0, he, rUEdge, rAProgram]
          first | refine callD_of (ks_l13To p ha hb) (by simp [rAProgram, rAEdge]) ?_ | refine call_of (ks_l13To p ha hb) (by simp [rAProgram, rAEdge]) ?_ | refine callD_of (ks_l13To p ha hb) rfl ?_ | refine call_of (ks_l13To p ha hb) rfl ?_
          rintro r rfl
          simp [hk4, hk3, hk2, hk1, s8', eid', s10, hw, z0, z1, z2, z3]
          refine ⟨by unfold LIM; omega, ?_⟩
          refine hR2 _ _ _ (by simp [hk4, hk3, hk2, hk1]) (by simp) ⟨by omega, by simp [b0, q0, q4, r0, rAProgram], by simp [b1, q1, q5, r1, q4], by simp [b2, q2, q6, r2, q5], by simp [b3, q3, q7, r3, q6], X ++ [((p.Rules[a]).Calls[b]).Func], n2 + 1, hSX.add (c := M[i]) (by rw [← hXv]; exact List.getElem_mem hiX) (by rw [← c1]; exact hpm) (hE2 _ hpm) (hasS_not.1 c2), by rw [List.getElem?_append_left hiX]; exact hXi, ?_, by omega, by omega, by simp, by simp [strsR, List.take_of_length_le]⟩
          intro e hm hc
          rw [take_pairs hj, hpe] at hm
          rcases List.mem_append.1 hm with hm | hm
          · exact List.mem_append_left _ (hXE e hm hc)
          · rw [List.mem_singleton.1 hm]; simp
        · rw [c2] at s62
          simp at s62
          simp [hk4, hk3, hk2, hk1, s62, s10, hw]
          refine hR2 _ _ _ (by simp [hk4, hk3, hk2, hk1]) (by simp) ⟨hn2, b0, b1, b2, b3, X, id', hSX, hXi, ?_, hid3', hid', by simp [hk4, hk3, s8'], eid'⟩
          intro e hm hc
          rw [take_pairs hj, hpe] at hm
          rcases List.mem_append.1 hm with hm | hm
          · exact hXE e hm hc
          · rw [List.mem_singleton.1 hm]; exact hasS_iff.1 c2
      · rw [decide_eq_false c1] at s62
        simp at s62
        simp [hk4, hk3, hk2, hk1, s62, s10, hw]
        refine hR2 _ _ _ (by simp [hk4, hk3, hk2, hk1]) (by simp) ⟨hn2, b0, b1, b2, b3, X, id', hSX, hXi, ?_, hid3', hid', by simp [hk4, hk3, s8'], eid'⟩
        intro e hm hc
        rw [take_pairs hj, hpe] at hm
        rcases List.mem_append.1 hm with hm | hm
        · exact hXE e hm hc
        · rw [List.mem_singleton.1 hm] at hc; exact absurd hc c1
    rintro st2 h2 n2 R2 hk2 s10 ⟨hn2, b0, b1, b2, b3, X, id', hSX, hXi, hXE, hid3', hid', s8', eid'⟩ hret2 hX2
    simp at hk2
    rw [List.take_of_length_le (by omega), ← hEE] at hXE
    refine rC_seqI (rC_cut [2, 5, 6, 7, 8, 9] (fun s => s 38 = .bool false) (by simp [hk2, hk1, s6, s10, b2]) ?_)
    intro st3 hk3 s38
    simp at hk3
    refine rC_stop1 s38 ?_
    refine hX2 _ _ _ _ ?_
    simp [hk3, hk2, hk1, s9, hw0]
    exact hR ((namesP p).length - (i + 1)) _ _ _ (by omega) ⟨hn2, by simp [hk3, hk2, hk1, s2], by simp [hk3, hk2, hk1, s5], by simp [hk3, hk2, hk1, s6], by simp [hk3, hk2, hk1, s7], b0, b1, b2, b3, X, i + 1, id', rfl, hSX.next hXi hXE, by simp, hid3', hid', by simp [hk3, s8'], eid'⟩
  have hiM : i = M.length := by have := hS.2.2.2.1; omega
  subst hiM
  have hT : (namesP p).filter (hasS M) = T := by rw [← hRN]; exact reachN_of hE2 hnm hS.done
  have hTn : T.length ≤ (namesP p).length := by rw [← hT]; exact List.length_filter_le _ _
  have hfl3 : (namesP p).length ≤ 3 := by omega
  refine rC_seqI (rC_cut [5, 7, 8] (fun s => s 32 = .bool false) (by simp [s9, s8, eid]) ?_)
  intro st1 hk1 s32
  simp at hk1
  refine rC_stop1 s32 ?_
  refine hX _ _ _ _ ?_
  simp
  have htM : List.take M.length (strsR M) = strsR M := List.take_of_length_le (by simp [strsR])
  refine rL_forO [5, 8] 11 (namesP p).length (fun i s h' n' => id < n' ∧ 3 < n' ∧ h' 1 = some ⟨false, 1, strsR (namesP p)⟩ ∧ h' id = some ⟨false, 1, strsR M⟩ ∧ ∃ (acc : List Str) (ic : Nat), acc ++ ((namesP p).drop i).filter (hasS M) = T ∧ ic ≠ 1 ∧ ic ≠ id ∧ ic < n' ∧ s 7 = .ref ic 0 acc.length ∧ h' ic = some ⟨false, 1, strsR acc⟩) (by unfold LIM; omega) (by simp) ⟨hid, hn, e1, eid, [], 3, by simpa using hT, by simp, by omega, hn, by simp [hk1, s7], by simp [e3, strsR]⟩ ?_ ?_
  · rintro i st2 h2 n2 R2 hi hg hk2 s11 hw ⟨hn2, hn3, b1, bM, acc, ic, hJ, hc1, hcM, hic, s7', eic⟩ hR2 hret2 _
    simp at hk2
    rw [List.drop_eq_getElem_cons hi, List.filter_cons] at hJ
    refine rC_seqI (rC_cut [5, 7, 8, 11] (fun s => s 75 = .bool true) (by simp [hk2, hk1, s5, s11, hi, b1]) ?_)
    intro st3 hk3 s75
    simp at hk3
    refine rC_pass1 s75 (rC_seqI (rC_blkI ?_))
    refine rC_cut [5, 7, 8, 11] (fun s => s 84 = .bool (hasS M (namesP p)[i])) ?_ ?_
    · simp [hk3, hk2, hk1, s5, s8, s11, hi, b1]
      first | refine callD_of (ks_IndexOf M ((namesP p)[i]'hi)) (by simp [htM, bM]) ?_ | refine call_of (ks_IndexOf M ((namesP p)[i]'hi)) (by simp [htM, bM]) ?_ | refine callD_of (ks_IndexOf M ((namesP p)[i]'hi)) rfl ?_ | refine call_of (ks_IndexOf M ((namesP p)[i]'hi)) rfl ?_
      rintro r rfl
      have g3 := idx_has M (namesP p)[i]
      simp [g3]
    intro st4 hk4 s84
    simp at hk4
    have z0 : ¬ ic = n2 := by omega
    have z1 : ¬ ic = n2 + 1 := by omega
    have z2 : ¬ n2 + 1 = ic := by omega
    have z3 : ¬ n2 = ic := by omega
    have q1 : ¬ 1 = n2 := by omega
    have q5 : ¬ n2 = 1 := by omega
    have q4 : ¬ n2 = 0 := by omega
    have r1 : ¬ 1 = ic := fun e => hc1 e.symm
    have w0 : ¬ id = n2 := by omega
    have w1 : ¬ id = n2 + 1 := by omega
    have w2 : ¬ id = ic := fun e => hcM e.symm
    cases c1 : hasS M (namesP p)[i]
    · rw [c1] at hJ s84
      simp only [Bool.false_eq_true, if_false] at hJ
      simp [hk4, hk3, hk2, hk1, s84, s11, hw]
      exact hR2 _ _ _ (by simp [hk4, hk3, hk2, hk1]) (by simp) ⟨hn2, hn3, b1, bM, acc, ic, hJ, hc1, hcM, hic, by simp [hk4, hk3, s7'], eic⟩
    rw [c1] at hJ s84
    simp only [if_true] at hJ
    have hal := congrArg List.length hJ
    simp only [List.length_append, List.length_cons] at hal
    simp [hk4, hk3, hk2, hk1, s84, s11, hi, hw, s5, s7', eic, b1, z0, z1, z2, z3, q1, q5, q4, r1]
    refine ⟨by unfold LIM; omega, ?_⟩
    exact hR2 _ _ _ (by simp [hk4, hk3, hk2, hk1]) (by simp) ⟨by omega, by omega, by simp [b1, q1, q5, r1, q4], by simp [bM, w0, w1, w2], acc ++ [(namesP p)[i]], n2 + 1, by simpa using hJ, by omega, by omega, by omega, by simp, by simp [strsR, List.take_of_length_le]⟩
  rintro st2 h2 n2 R2 hk2 s11 ⟨hn2, hn3, b1, bM, acc, ic, hJ, hc1, hcM, hic, s7', eic⟩ hret2 hX2
  simp at hk2
  rw [List.drop_eq_nil_of_le (by omega)] at hJ
  simp at hJ
  subst hJ
  refine rC_seqI (rC_cut [7] (fun s => s 75 = .bool false) (by simp [hk2, hk1, s5, s11, b1]) ?_)
  intro st3 hk3 s75
  simp at hk3
  refine rC_stop1 s75 ?_
  refine hX2 _ _ _ _ ?_
  simp [hk3, s7', eic]
end Go.Proofs.YtlmajgghnenbpaaGreat
