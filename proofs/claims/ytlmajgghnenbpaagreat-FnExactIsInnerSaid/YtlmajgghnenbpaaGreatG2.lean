/- The edges of a program: plain laws. -/
import Derived.Test.YtlmajgghnenbpaaGreatG1
namespace Go.Proofs.YtlmajgghnenbpaaGreat
set_option linter.all false
open Go Go.RowKit Go.Proofs

def edgeAt (i : Nat) (k : Nat) : DEdge := ⟨i, k⟩
def ruleEdges (i : Nat) (r : DRule) : List DEdge := (List.range r.Calls.length).map (edgeAt i)
def edgesFrom : Nat → List DRule → List DEdge
  | _, [] => []
  | i, r :: l => ruleEdges i r ++ edgesFrom (i + 1) l
def edgesL (p : DProgram) : List DEdge := edgesFrom 0 p.Rules
def edgesOf (p : DProgram) : List DEdge := if progOk p then edgesL p else []
def fromE (p : DProgram) (e : DEdge) : Str := match p.Rules[e.Rule.toNat]? with | some r => r.Func | Option.none => []
def toE (p : DProgram) (e : DEdge) : Str := match p.Rules[e.Rule.toNat]? with | some r => (match r.Calls[e.Call.toNat]? with | some c => c.Func | Option.none => []) | Option.none => []
def pairsE (p : DProgram) : List (Str × Str) := (edgesL p).map fun e => (fromE p e, toE p e)
def namesP (p : DProgram) : List Str := p.Functions.map (·.Name)

theorem edgesFrom_mem {e : DEdge} : ∀ {l : List DRule} {i : Nat}, e ∈ edgesFrom i l → ∃ j k : Nat, ∃ hj : j < l.length, k < (l[j]).Calls.length ∧ e = ⟨((i + j : Nat) : Int), k⟩
  | [], _, h => by cases h
  | r :: l, i, h => by
    simp only [edgesFrom] at h
    rcases List.mem_append.1 h with h | h
    · simp only [ruleEdges, List.mem_map, List.mem_range, edgeAt] at h
      obtain ⟨k, hk, rfl⟩ := h
      exact ⟨0, k, by simp, by simpa using hk, by simp⟩
    · obtain ⟨j, k, hj, hk, rfl⟩ := edgesFrom_mem h
      exact ⟨j + 1, k, by simpa using hj, by simpa using hk, by congr 1; omega⟩
theorem edgesL_mem {p : DProgram} {e : DEdge} (h : e ∈ edgesL p) : ∃ i k : Nat, ∃ hi : i < p.Rules.length, k < (p.Rules[i]).Calls.length ∧ e = ⟨(i : Int), (k : Int)⟩ := by
  obtain ⟨j, k, hj, hk, rfl⟩ := edgesFrom_mem h
  exact ⟨j, k, hj, hk, by congr 1; omega⟩
theorem fromE_at {p : DProgram} {i k : Nat} (hi : i < p.Rules.length) : fromE p ⟨(i : Int), (k : Int)⟩ = (p.Rules[i]).Func := by
  simp only [fromE, Int.toNat_natCast, List.getElem?_eq_getElem hi]
theorem toE_at {p : DProgram} {i k : Nat} (hi : i < p.Rules.length) (hk : k < (p.Rules[i]).Calls.length) : toE p ⟨(i : Int), (k : Int)⟩ = ((p.Rules[i]).Calls[k]).Func := by
  simp only [toE, Int.toNat_natCast, List.getElem?_eq_getElem hi, List.getElem?_eq_getElem hk]
theorem edgesFrom_len : ∀ (l : List DRule) (i : Nat), (edgesFrom i l).length ≤ wL wRule l
  | [], _ => Nat.zero_le _
  | r :: l, i => by
    have h1 := edgesFrom_len l (i + 1)
    have h2 := wL_len wCall r.Calls
    have h3 : (ruleEdges i r).length = r.Calls.length := by simp [ruleEdges]
    have h4 : r.Calls.length ≤ wRule r := by unfold wRule wCallS; omega
    simp only [edgesFrom, List.length_append, h3]
    unfold wL at h1 ⊢
    simp only [List.map_cons, List.sum_cons, List.length_cons]
    omega
theorem edgesL_len (p : DProgram) (hw : wProgram p ≤ 1048576) : (edgesL p).length ≤ 1048576 := by
  have := edgesFrom_len p.Rules 0
  unfold wProgram wRuleS at hw
  unfold edgesL
  omega

theorem findFn_name {l : List DFunction} {s : Str} (h : (findFn l s).isSome = true) : s ∈ l.map (·.Name) := by
  unfold findFn at h
  rw [List.find?_isSome] at h
  obtain ⟨f, hf, hn⟩ := h
  exact List.mem_map.2 ⟨f, hf, by simpa using hn⟩
theorem distFrom_nd : ∀ {l met : List Str}, distFrom met l = true → l.Nodup ∧ ∀ x ∈ l, x ∉ met
  | [], _, _ => ⟨List.nodup_nil, fun _ h => (by cases h)⟩
  | s :: l, met, h => by
    simp only [distFrom, Bool.and_eq_true, Bool.not_eq_true'] at h
    obtain ⟨h1, h2⟩ := distFrom_nd h.2
    have h3 := hasS_not.1 h.1
    refine ⟨List.nodup_cons.2 ⟨fun hs => h2 s hs (by simp), h1⟩, ?_⟩
    intro x hx
    rcases List.mem_cons.1 hx with rfl | hx
    · exact h3
    · exact fun hm => h2 x hx (List.mem_append_left _ hm)
theorem callsFrom_get {p : DProgram} {r : DRule} : ∀ {l : List DCall} {k : Nat}, callsFrom p r k l = true → ∀ c ∈ l, ∃ s, callB p c s = true
  | [], _, _, _, h => by cases h
  | c :: l, k, h, d, hd => by
    simp only [callsFrom, Bool.and_eq_true] at h
    rcases List.mem_cons.1 hd with rfl | hd
    · exact ⟨_, h.1⟩
    · exact callsFrom_get h.2 d hd
/-- What a valid program's edges are. -/
theorem progOk_facts {p : DProgram} (h : progOk p = true) : (namesP p).Nodup ∧ (∀ e ∈ pairsE p, e.1 ∈ namesP p ∧ e.2 ∈ namesP p) ∧ p.Functions.length ≤ 3 ∧ p.Rules.length ≤ 8 := by
  unfold progOk at h
  simp only [Bool.and_eq_true, decide_eq_true_eq, fnsFrom_eq] at h
  obtain ⟨⟨⟨h1, h2⟩, h3⟩, h4⟩ := h
  have h1' : p.Functions.length ≤ 3 := by unfold inR at h1; simp at h1; omega
  refine ⟨(distFrom_nd h2.2).1, ?_, h1', h3⟩
  intro e he
  obtain ⟨x, hx, rfl⟩ := List.mem_map.1 he
  obtain ⟨i, k, hi, hk, rfl⟩ := edgesL_mem hx
  have hr := List.all_eq_true.1 h4 _ (List.getElem_mem hi)
  unfold ruleOk at hr
  simp only [Bool.and_eq_true, decide_eq_true_eq] at hr
  obtain ⟨⟨⟨⟨⟨⟨⟨g1, g2⟩, g3⟩, g4⟩, g5⟩, g6⟩, g7⟩, g8⟩ := hr
  rw [fromE_at hi, toE_at hi hk]
  refine ⟨findFn_name g1, ?_⟩
  obtain ⟨s, hs⟩ := callsFrom_get g6 _ (List.getElem_mem hk)
  unfold callB at hs
  simp only [Bool.and_eq_true] at hs
  exact findFn_name hs.1.1.1

/-- What is reached from a function. -/
def reachP (p : DProgram) (name : Str) : List Str := if progOk p && hasS (namesP p) name then reachN (pairsE p) (namesP p) name else []
def compP (p : DProgram) (name : Str) : List Str := (reachP p name).filter fun g => hasS (reachP p g) name
theorem compP_eq {p : DProgram} {name : Str} (h : progOk p = true) (hn : name ∈ namesP p) : compP p name = compN (pairsE p) (namesP p) name := by
  unfold compP compN
  rw [show reachP p name = reachN (pairsE p) (namesP p) name by unfold reachP; rw [h, hasS_iff.2 hn]; rfl]
  refine List.filter_congr fun g hg => ?_
  have hgn : g ∈ namesP p := (List.mem_filter.1 hg).1
  rw [show reachP p g = reachN (pairsE p) (namesP p) g by unfold reachP; rw [h, hasS_iff.2 hgn]; rfl]
def compsP (p : DProgram) : List (List Str) := if progOk p then compsN (pairsE p) (namesP p) (namesP p).length [] else []
def innerE (p : DProgram) (list : List Str) : List DEdge := (edgesOf p).filter fun e => hasS list (fromE p e) && hasS list (toE p e)
def isRec (p : DProgram) (name : Str) : Bool := decide (0 < (innerE p (compP p name)).length)
/-- Is an edge inside a component? -/
def inner1 (p : DProgram) (e : DEdge) : Bool := hasS (reachP p (toE p e)) (fromE p e)
def isInner (p : DProgram) (e : DEdge) : Bool := decide (e ∈ edgesOf p) && inner1 p e
end Go.Proofs.YtlmajgghnenbpaaGreat
