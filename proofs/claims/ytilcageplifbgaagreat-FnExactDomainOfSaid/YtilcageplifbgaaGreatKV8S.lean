/- Contracts: valid programs, of the reference. -/
import Derived.Test.YtilcageplifbgaaGreatKV8
namespace Go.Proofs.YtilcageplifbgaaGreat
set_option linter.all false
open Go Go.RowKit Go.Proofs
def a141 : AFn :=
⟨69, [(.t 2)], (.seq
 (.reg [⟨some 2, (.mv (.k (.bool false))), no⟩]) (.seq
 (.reg [⟨some 7, (.bsl 1 []), no⟩, ⟨some 3, (.mv (.t 7)), no⟩]) (.seq (.seq
 (.reg [⟨some 4, (.mv (.k (.int .i64 0))), no⟩]) (.blk 0 (.loop (.seq (.seq
 (.reg [⟨some 8, (.mv (.t 4)), no⟩, ⟨some 9, (.mv (.t 0)), no⟩, ⟨some 10, (.len false (.t 9)), no⟩, ⟨some 11, (.bin .lss (.t 8) (.t 10)), no⟩]) (.cond (.t 11) .skip (.exit 0))) (.seq (.blk 1 (.seq
 (.reg [⟨some 14, (.mv (.t 0)), no⟩, ⟨some 15, (.mv (.t 4)), no⟩, ⟨some 16, (.ixa 4 (.t 14) (.t 15)), no⟩, ⟨some 17, (.ld true 4 (.t 16)), no⟩, ⟨some 5, (.box [(.str []), (.nil 1), (.bool false), (.nil 2)]), no⟩, ⟨no, (.st 4 (.t 5) (.t 17)), no⟩]) (.seq (.seq
 (.reg [⟨some 18, (.fld 0 (.t 5)), no⟩, ⟨some 19, (.ld false 1 (.t 18)), no⟩, ⟨some 20, (.call (.k (.fn (.func 204) [] [])) [(.t 19)]), no⟩, ⟨some 21, (.un .not (.t 20)), no⟩, ⟨some 22, (.mv (.t 21)), no⟩, ⟨some 23, (.fld 1 (.t 5)), (some (22, false))⟩, ⟨some 24, (.ld false 1 (.t 23)), (some (22, false))⟩, ⟨some 25, (.len false (.t 24)), (some (22, false))⟩, ⟨some 26, (.bin .gtr (.t 25) (.k (.int .i64 2))), (some (22, false))⟩, ⟨some 27, (.pick (.t 22) (.k (.bool true)) (.t 26)), no⟩, ⟨some 28, (.mv (.t 27)), no⟩, ⟨some 29, (.fld 1 (.t 5)), (some (28, false))⟩, ⟨some 30, (.ld false 1 (.t 29)), (some (28, false))⟩, ⟨some 31, (.call (.k (.fn (.func 205) [] [])) [(.t 30)]), (some (28, false))⟩, ⟨some 32, (.un .not (.t 31)), (some (28, false))⟩, ⟨some 33, (.pick (.t 28) (.k (.bool true)) (.t 32)), no⟩, ⟨some 34, (.mv (.t 33)), no⟩, ⟨some 35, (.fld 3 (.t 5)), (some (34, false))⟩, ⟨some 36, (.ld false 1 (.t 35)), (some (34, false))⟩, ⟨some 37, (.len false (.t 36)), (some (34, false))⟩, ⟨some 38, (.bin .gtr (.t 37) (.k (.int .i64 2))), (some (34, false))⟩, ⟨some 39, (.pick (.t 34) (.k (.bool true)) (.t 38)), no⟩]) (.cond (.t 39) (.seq
 (.reg [⟨some 2, (.mv (.k (.bool false))), no⟩]) .ret) .skip)) (.seq (.seq
 (.reg [⟨some 6, (.mv (.k (.int .i64 0))), no⟩]) (.blk 2 (.loop (.seq (.seq
 (.reg [⟨some 40, (.mv (.t 6)), no⟩, ⟨some 41, (.fld 3 (.t 5)), no⟩, ⟨some 42, (.ld false 1 (.t 41)), no⟩, ⟨some 43, (.len false (.t 42)), no⟩, ⟨some 44, (.bin .lss (.t 40) (.t 43)), no⟩]) (.cond (.t 44) .skip (.exit 2))) (.seq (.blk 3 (.seq (.draw (.op ⟨some 47, (.fld 3 (.t 5)), no⟩ (.op ⟨some 48, (.ld false 1 (.t 47)), no⟩ (.op ⟨some 49, (.mv (.t 6)), no⟩ (.op ⟨some 50, (.ixa 2 (.t 48) (.t 49)), no⟩ (.op ⟨some 51, (.ld true 2 (.t 50)), no⟩ (.op ⟨some 52, (.fld 1 (.t 5)), no⟩ (.op ⟨some 53, (.ld false 1 (.t 52)), no⟩ (.op ⟨some 54, (.len false (.t 53)), no⟩ (.op ⟨some 55, (.call (.k (.fn (.func 191) [] [])) [(.t 51), (.t 54)]), no⟩ (.op ⟨some 56, (.un .not (.t 55)), no⟩ .fin))))))))))) (.cond (.t 56) (.seq
 (.reg [⟨some 2, (.mv (.k (.bool false))), no⟩]) .ret) .skip)))
 (.reg [⟨some 45, (.mv (.t 6)), no⟩, ⟨some 46, (.bin .add (.t 45) (.k (.int .i64 1))), no⟩, ⟨some 6, (.mv (.t 46)), no⟩]))))))
 (.reg [⟨some 57, (.mv (.t 3)), no⟩, ⟨some 58, (.fld 0 (.t 5)), no⟩, ⟨some 59, (.ld false 1 (.t 58)), no⟩, ⟨some 60, (.bsl 1 [(.t 59)]), no⟩, ⟨some 61, (.app 16 1 (.t 57) (.t 60)), no⟩, ⟨some 3, (.mv (.t 61)), no⟩])))))
 (.reg [⟨some 12, (.mv (.t 4)), no⟩, ⟨some 13, (.bin .add (.t 12) (.k (.int .i64 1))), no⟩, ⟨some 4, (.mv (.t 13)), no⟩])))))) (.seq
 (.reg [⟨some 62, (.mv (.t 0)), no⟩, ⟨some 63, (.len false (.t 62)), no⟩, ⟨some 64, (.call (.k (.fn (.func 96) [] [])) [(.t 63), (.k (.int .i64 1)), (.k (.int .i64 3))]), no⟩, ⟨some 65, (.mv (.t 64)), no⟩, ⟨some 66, (.mv (.t 3)), (some (65, true))⟩, ⟨some 67, (.call (.k (.fn (.func 206) [] [])) [(.t 66)]), (some (65, true))⟩, ⟨some 68, (.pick (.t 65) (.t 67) (.k (.bool false))), no⟩, ⟨some 2, (.mv (.t 68)), no⟩]) .ret))))⟩
theorem a141_ok : compFn Tryz.prog Tryz.f141 = some a141 := by kernel_rfl
def a58 : AFn :=
⟨29, [(.t 2)], (.seq
 (.reg [⟨some 1, (.boxv (.t 0)), no⟩, ⟨some 2, (.mv (.k (.bool false))), no⟩]) (.seq (.seq
 (.reg [⟨some 4, (.fld 0 (.t 1)), no⟩, ⟨some 5, (.ld false 1 (.t 4)), no⟩, ⟨some 6, (.call (.k (.fn (.func 141) [] [])) [(.t 5)]), no⟩, ⟨some 7, (.un .not (.t 6)), no⟩, ⟨some 8, (.mv (.t 7)), no⟩, ⟨some 9, (.fld 1 (.t 1)), (some (8, false))⟩, ⟨some 10, (.ld false 1 (.t 9)), (some (8, false))⟩, ⟨some 11, (.len false (.t 10)), (some (8, false))⟩, ⟨some 12, (.bin .gtr (.t 11) (.k (.int .i64 8))), (some (8, false))⟩, ⟨some 13, (.pick (.t 8) (.k (.bool true)) (.t 12)), no⟩]) (.cond (.t 13) (.seq
 (.reg [⟨some 2, (.mv (.k (.bool false))), no⟩]) .ret) .skip)) (.seq (.seq
 (.reg [⟨some 3, (.mv (.k (.int .i64 0))), no⟩]) (.blk 0 (.loop (.seq (.seq
 (.reg [⟨some 14, (.mv (.t 3)), no⟩, ⟨some 15, (.fld 1 (.t 1)), no⟩, ⟨some 16, (.ld false 1 (.t 15)), no⟩, ⟨some 17, (.len false (.t 16)), no⟩, ⟨some 18, (.bin .lss (.t 14) (.t 17)), no⟩]) (.cond (.t 18) .skip (.exit 0))) (.seq (.blk 1 (.seq (.draw (.op ⟨some 21, (.ld true 2 (.t 1)), no⟩ (.op ⟨some 22, (.fld 1 (.t 1)), no⟩ (.op ⟨some 23, (.ld false 1 (.t 22)), no⟩ (.op ⟨some 24, (.mv (.t 3)), no⟩ (.op ⟨some 25, (.ixa 7 (.t 23) (.t 24)), no⟩ (.op ⟨some 26, (.ld true 7 (.t 25)), no⟩ (.op ⟨some 27, (.call (.k (.fn (.func 142) [] [])) [(.t 21), (.t 26)]), no⟩ (.op ⟨some 28, (.un .not (.t 27)), no⟩ .fin))))))))) (.cond (.t 28) (.seq
 (.reg [⟨some 2, (.mv (.k (.bool false))), no⟩]) .ret) .skip)))
 (.reg [⟨some 19, (.mv (.t 3)), no⟩, ⟨some 20, (.bin .add (.t 19) (.k (.int .i64 1))), no⟩, ⟨some 3, (.mv (.t 20)), no⟩])))))) (.seq
 (.reg [⟨some 2, (.mv (.k (.bool true))), no⟩]) .ret))))⟩
theorem a58_ok : compFn Tryz.prog Tryz.f58 = some a58 := by kernel_rfl
theorem all_drop {α : Type} {p : α → Bool} {l : List α} {i : Nat} (hi : i < l.length) : (l.drop i).all p = (p l[i] && (l.drop (i + 1)).all p) := by rw [List.drop_eq_getElem_cons hi, List.all_cons]
theorem namN_len {l : List DFunction} {i : Nat} (hi : i ≤ l.length) : (namN l i).length = i := by simp [namN]; omega
set_option maxRecDepth 20000 in
set_option maxHeartbeats 2000000 in
theorem ks_l10Functions (fs : List DFunction) (hlf : fs.length ≤ 1048576) (hpre : ∀ f ∈ fs, f.Pre.length ≤ 1048576) : Holds Tryz.prog 141 [.sl 4 (fs.map rAFunction)] (fun x => x = .bool (fs.all fnOk && inR fs.length 1 3 && distB (fs.map (·.Name)))) := by
  refine holds_of_run Tryz.func141 a141_ok rfl (by simp [a141]) ?_
  simp [a141]
  generalize hB : fs.all fnOk = B
  refine rL_forO [0] 4 fs.length (fun i s h n => (fs.drop i).all fnOk = B ∧ ∃ id, id < n ∧ s 3 = .ref id 0 i ∧ h id = some ⟨false, 1, strsR (namN fs i)⟩) (by unfold LIM; omega) (by simp) ⟨by simpa using hB, 0, by simp, by simp, by simp [strsR, namN]⟩ ?_ ?_
  · rintro i st h n R hi hg hk s4 hw ⟨hJ, id, hid, s3, eid⟩ hR hret _
    simp at hk
    rw [all_drop hi] at hJ
    have z0 : ¬ id = n := by omega
    have z1 : ¬ n = id := by omega
    refine rC_seqI (rC_cut [0, 3, 4] (fun s => s 11 = .bool true) (by simp [hk, s4, hi]) ?_)
    intro st1 hk1 s11
    simp at hk1
    refine rC_pass1 s11 (rC_seqI (rC_blkI ?_))
    refine rC_cutH [0, 3, 4] (fun s h' n' => s 5 = .ptr n 0 0 ∧ n' = n + 1 ∧ h' n = some ⟨true, 4, [rAFunction fs[i]]⟩ ∧ h' id = some ⟨false, 1, strsR (namN fs i)⟩) (by simp [hk, hk1, s4, hi, rAFunction, eid, z0, z1]) ?_
    rintro st2 h2' n2 hk2 ⟨s5, rfl, en, eid'⟩
    simp at hk2
    have hfp := hpre _ (List.getElem_mem hi)
    generalize hf : fs[i] = f at *
    refine rC_seqI (rC_cut [0, 3, 4, 5] (fun s => s 39 = .bool (!intName f.Name || !decide (f.Params.length ≤ 2) || !(f.Params.all okName && distB f.Params) || !decide (f.Pre.length ≤ 2))) ?_ ?_)
    · have hdp : decide (f.Params.length ≤ 2) = decide ((f.Params.length : Int) ≤ 2) := by rw [decide_eq_decide]; omega
      have hdq : decide (f.Pre.length ≤ 2) = decide ((f.Pre.length : Int) ≤ 2) := by rw [decide_eq_decide]; omega
      obtain ⟨E, hE⟩ : ∃ E, E = (f.Params.all okName && distB f.Params) := ⟨_, rfl⟩
      rw [hdp, hdq, ← hE]
      simp [hk, hk1, hk2, s5, en, rAFunction]
      first | refine callD_of (ks_l10IntName f.Name) (by simp) ?_ | refine call_of (ks_l10IntName f.Name) (by simp) ?_ | refine callD_of (ks_l10IntName f.Name) rfl ?_ | refine call_of (ks_l10IntName f.Name) rfl ?_
      rintro r rfl
      cases g1 : intName f.Name
      · simp
      simp [hk, hk1, hk2, s5, en, rAFunction]
      intro _
      by_cases g3 : (f.Params.length : Int) ≤ 2
      case neg => simp [g3, Int.not_le.1 g3]
      simp [g3, Int.not_lt.2 g3, hk, hk1, hk2, s5, en, rAFunction]
      first | refine callD_of (ks_l5Names f.Params) (by simp) ?_ | refine call_of (ks_l5Names f.Params) (by simp) ?_ | refine callD_of (ks_l5Names f.Params) rfl ?_ | refine call_of (ks_l5Names f.Params) rfl ?_
      rintro r rfl
      rw [← hE]
      clear hE
      cases E
      · simp
      simp [hk, hk1, hk2, s5, en, rAFunction]
      intro _
      by_cases g5 : (f.Pre.length : Int) ≤ 2
      · simp [g5, Int.not_lt.2 g5]
      · simp [g5, Int.not_le.1 g5]
    intro st3 hk3 s39
    simp at hk3
    generalize hcc : (!intName f.Name || !decide (f.Params.length ≤ 2) || !(f.Params.all okName && distB f.Params) || !decide (f.Pre.length ≤ 2)) = cc at *
    have hbody : fnOk f = (!cc && f.Pre.all fun l => okLin l f.Params.length) := by
      rw [← hcc]
      unfold fnOk
      cases intName f.Name <;> cases decide (f.Params.length ≤ 2) <;> cases f.Params.all okName <;> cases distB f.Params <;> cases decide (f.Pre.length ≤ 2) <;> simp
    rw [hbody] at hJ
    clear hbody hcc
    cases cc
    case true =>
      simp at hJ
      simp [s39]
      refine hret _ _ _ ?_
      simp [hJ]
    refine rC_condF s39 ?_
    simp only [kont_seq]
    simp only [Bool.not_false, Bool.true_and] at hJ
    simp [hk, hk1, hk2, hk3]
    generalize hB2 : (f.Pre.all fun l => okLin l f.Params.length) = B2 at *
    refine rL_forO [0, 3, 4, 5] 6 f.Pre.length (fun j s h' n' => n < n' ∧ h' n = some ⟨true, 4, [rAFunction f]⟩ ∧ h' id = some ⟨false, 1, strsR (namN fs i)⟩ ∧ ((f.Pre.drop j).all fun l => okLin l f.Params.length) = B2) (by unfold LIM; omega) (by simp) ⟨by omega, by simpa using en, by simpa using eid', by simpa using hB2⟩ ?_ ?_
    · rintro j stj hj nj Rj hji hjg hkj s6 hwj ⟨hnj, enj, eidj, hJj⟩ hRj hretj _
      simp at hkj
      rw [all_drop hji] at hJj
      refine rC_seqI (rC_cut [0, 3, 4, 5, 6] (fun s => s 44 = .bool true) (by simp [hkj, hk3, s5, s6, hji, enj, rAFunction]) ?_)
      intro stk hkk s44
      simp at hkk
      refine rC_pass1 s44 (rC_seqI (rC_blkI ?_))
      refine rC_cut [0, 3, 4, 5, 6] (fun s => s 56 = .bool (!okLin f.Pre[j] f.Params.length)) ?_ ?_
      · simp [hkj, hkk, hk3, s5, s6, hji, hjg, enj, rAFunction]
        first | refine callD_of (ks_IsValidLin (f.Pre[j]'hji) f.Params.length) (by simp) ?_ | refine call_of (ks_IsValidLin (f.Pre[j]'hji) f.Params.length) (by simp) ?_ | refine callD_of (ks_IsValidLin (f.Pre[j]'hji) f.Params.length) rfl ?_ | refine call_of (ks_IsValidLin (f.Pre[j]'hji) f.Params.length) rfl ?_
        rintro r rfl
        simp
      intro stm hkm s56
      simp at hkm
      generalize okLin f.Pre[j] f.Params.length = D at *
      cases D
      · rw [Bool.false_and] at hJj
        subst hJj
        simp at hJ
        subst hJ
        simp [s56]
        refine hretj _ _ _ ?_
        simp
        refine hret _ _ _ ?_
        simp
      · rw [Bool.true_and] at hJj
        simp [hkj, hkk, hkm, s56, s6, hwj]
        exact hRj _ _ _ (by simp [hkj, hkk, hkm]) (by simp) ⟨hnj, enj, eidj, hJj⟩
    rintro stj hj nj Rj hkj s6 ⟨hnj, enj, eidj, hJj⟩ hretj hXj
    simp at hkj
    rw [List.drop_eq_nil_of_le (by omega)] at hJj
    simp at hJj
    subst hJj
    rw [Bool.true_and] at hJ
    refine rC_seqI (rC_cut [0, 3, 4, 5] (fun s => s 44 = .bool false) (by simp [hkj, hk3, s5, s6, enj, rAFunction]) ?_)
    intro stk hkk s44
    simp at hkk
    refine rC_stop1 s44 ?_
    simp
    refine hXj _ _ _ _ ?_
    have y0 : ¬ id = nj := by omega
    have y1 : ¬ nj = id := by omega
    have y2 : ¬ id = nj + 1 := by omega
    have y3 : ¬ nj + 1 = id := by omega
    have y4 : ¬ n = nj := by omega
    have y5 : ¬ nj = n := by omega
    have hl := namN_len (l := fs) (i := i) (by omega)
    simp [hk, hk1, hk2, hk3, hkj, hkk, s3, s4, s5, enj, eidj, rAFunction, y0, y1, y2, y3, y4, y5, hl, hw]
    refine ⟨by unfold LIM; omega, ?_⟩
    have hs := namN_succ hi
    rw [hf] at hs
    exact hR _ _ _ (by simp [hk, hk1, hk2, hk3, hkj, hkk]) (by simp) ⟨hJ, nj + 1, by omega, by simp, by simp [hs, strsR, List.take_of_length_le, hl]⟩
  rintro st h n R hk s4 ⟨hJ, id, hid, s3, eid⟩ hret hX
  simp at hk
  rw [List.drop_eq_nil_of_le (by omega)] at hJ
  simp at hJ
  subst hJ
  refine rC_seqI (rC_cut [0, 3, 4] (fun s => s 11 = .bool false) (by simp [hk, s4]) ?_)
  intro st1 hk1 s11
  simp at hk1
  refine rC_stop1 s11 ?_
  refine hX _ _ _ _ ?_
  have hnam : namN fs fs.length = fs.map (·.Name) := by simp [namN]
  have hnl := namN_len (l := fs) (i := fs.length) (by omega)
  rw [hnam] at eid hnl
  simp [hk, hk1]
  intro _
  first | refine callD_of (k_l1In fs.length 1 3) (by simp) ?_ | refine call_of (k_l1In fs.length 1 3) (by simp) ?_ | refine callD_of (k_l1In fs.length 1 3) rfl ?_ | refine call_of (k_l1In fs.length 1 3) rfl ?_
  rintro r rfl
  cases h1 : inR fs.length 1 3
  · simp
  simp [hk1, s3]
  have ht : List.take fs.length (strsR (fs.map (·.Name))) = strsR (fs.map (·.Name)) := List.take_of_length_le (by simp)
  first | refine callD_of (ks_AllDistinct (fs.map (·.Name))) (by simp [eid, ht]) ?_ | refine call_of (ks_AllDistinct (fs.map (·.Name))) (by simp [eid, ht]) ?_ | refine callD_of (ks_AllDistinct (fs.map (·.Name))) rfl ?_ | refine call_of (ks_AllDistinct (fs.map (·.Name))) rfl ?_
  rintro r rfl
  simp
set_option maxRecDepth 20000 in
set_option maxHeartbeats 2000000 in
theorem ks_IsValidProgram (p : DProgram) (hp : wProgram p ≤ 1048576) : Holds Tryz.prog 58 [.agg (rAProgram p)] (fun x => x = .bool (progOk p)) := by
  have hlf : p.Functions.length ≤ 1048576 := by have := wL_len wFunction p.Functions; unfold wProgram wFunctionS at hp; omega
  have hpre : ∀ f ∈ p.Functions, f.Pre.length ≤ 1048576 := fun f hf => by
    have h1 := wL_mem (w := wFunction) hf
    have h2 := wL_len wLin f.Pre
    unfold wProgram wFunctionS at hp
    rw [show wFunction f = f.Name.length + wStringS f.Params + wLinS f.Pre from rfl] at h1
    unfold wLinS at h1
    omega
  have hlr : p.Rules.length ≤ 1048576 := by have := wL_len wRule p.Rules; unfold wProgram wRuleS at hp; omega
  refine holds_of_run Tryz.func58 a58_ok rfl (by simp [a58]) ?_
  simp [a58, rAProgram]
  first | refine callD_of (ks_l10Functions p.Functions hlf hpre) (by simp) ?_ | refine call_of (ks_l10Functions p.Functions hlf hpre) (by simp) ?_ | refine callD_of (ks_l10Functions p.Functions hlf hpre) rfl ?_ | refine call_of (ks_l10Functions p.Functions hlf hpre) rfl ?_
  rintro r rfl
  have hord : progOk p = (p.Functions.all fnOk && inR p.Functions.length 1 3 && distB (p.Functions.map (·.Name)) && decide (p.Rules.length ≤ 8) && p.Rules.all (ruleOk p)) := by
    unfold progOk
    rw [fnsFrom_eq]
    unfold distB
    cases inR p.Functions.length 1 3 <;> cases p.Functions.all fnOk <;> simp
  rw [hord]
  generalize (p.Functions.all fnOk && inR p.Functions.length 1 3 && distB (p.Functions.map (·.Name))) = E
  cases E
  · simp
  simp
  intro _
  have hdg : decide (p.Rules.length ≤ 8) = decide ((p.Rules.length : Int) ≤ 8) := by rw [decide_eq_decide]; omega
  by_cases h2 : (p.Rules.length : Int) ≤ 8
  case neg =>
    have h2n : ¬ p.Rules.length ≤ 8 := by omega
    simp [h2, h2n, Int.not_le.1 h2]
  have h2n : p.Rules.length ≤ 8 := by omega
  simp [h2, h2n, Int.not_lt.2 h2]
  generalize hB : p.Rules.all (ruleOk p) = B
  refine rL_forO [1] 3 p.Rules.length (fun i s h n => 0 < n ∧ h 0 = some ⟨true, 2, [rAProgram p]⟩ ∧ (p.Rules.drop i).all (ruleOk p) = B) (by unfold LIM; omega) (by simp) ⟨by simp, by simp [rAProgram], by simpa using hB⟩ ?_ ?_
  · rintro i st h n R hi hg hk s3 hw ⟨hn, e0, hJ⟩ hR hret _
    simp at hk
    rw [all_drop hi] at hJ
    refine rC_seqI (rC_cut [1, 3] (fun s => s 18 = .bool true) (by simp [hk, s3, hi, e0, rAProgram]) ?_)
    intro st1 hk1 s18
    simp at hk1
    refine rC_pass1 s18 (rC_seqI (rC_blkI ?_))
    refine rC_cut [1, 3] (fun s => s 28 = .bool (!ruleOk p p.Rules[i])) ?_ ?_
    · simp [hk, hk1, s3, hi, hg, e0, rAProgram]
      first | refine callD_of (ks_IsValidRule p (p.Rules[i]'hi) hp (wRule_of hp _ (List.getElem_mem hi))) (by simp [rAProgram]) ?_ | refine call_of (ks_IsValidRule p (p.Rules[i]'hi) hp (wRule_of hp _ (List.getElem_mem hi))) (by simp [rAProgram]) ?_ | refine callD_of (ks_IsValidRule p (p.Rules[i]'hi) hp (wRule_of hp _ (List.getElem_mem hi))) rfl ?_ | refine call_of (ks_IsValidRule p (p.Rules[i]'hi) hp (wRule_of hp _ (List.getElem_mem hi))) rfl ?_
      rintro r rfl
      simp
    intro st2 hk2 s28
    simp at hk2
    generalize ruleOk p p.Rules[i] = D at *
    cases D
    · rw [Bool.false_and] at hJ
      subst hJ
      simp [s28]
      refine hret _ _ _ ?_
      simp
    · rw [Bool.true_and] at hJ
      simp [hk, hk1, hk2, s28, s3, hw]
      exact hR _ _ _ (by simp [hk, hk1, hk2]) (by simp) ⟨hn, e0, hJ⟩
  rintro st h n R hk s3 ⟨hn, e0, hJ⟩ hret hX
  simp at hk
  rw [List.drop_eq_nil_of_le (by omega)] at hJ
  simp at hJ
  subst hJ
  refine rC_seqI (rC_cut [1] (fun s => s 18 = .bool false) (by simp [hk, s3, e0, rAProgram]) ?_)
  intro st1 hk1 s18
  refine rC_stop1 s18 ?_
  refine hX _ _ _ _ ?_
  simp
end Go.Proofs.YtilcageplifbgaaGreat
