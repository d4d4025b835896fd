/- Functions: what is claimed of them, and how it is used. -/
import Derived.Test.YtlefdibgonpoaaaR20E
namespace Go.Proofs.Ytlefdibgonpoaaa
open Go Go.RowKit

inductive RV where
  | t (n : Nat)
  | c (n : Nat) (agg : Bool) (sz : Nat)

structure AFn where
  nt : Nat
  res : List RV
  body : AC

def compR (P : Program) : ResultVar → Option RV
  | .tmp t => some (.t t)
  | .cell a t => match aggB P t, P.info? t with
    | some g, some i => some (.c a g i.size)
    | _, _ => Option.none

def compFn (P : Program) (fn : Func) : Option AFn :=
  match fn.body with
  | some c => (compC P fn.ntmps c).bind fun b => (fn.results.toList.mapM (compR P)).map fun r => ⟨fn.ntmps, r, b⟩
  | Option.none => Option.none

def resA1 (s : Env) (h : Heap) : RV → Option AV
  | .t n => some (s n)
  | .c n g sz => match s n with
    | .ptr id r c => match h id with
      | some B => if r < B.rows.length then ldv B.box g (rowD B.rows r) c sz else Option.none
      | Option.none => Option.none
    | _ => Option.none

def resAs (s : Env) (h : Heap) : List RV → Option (List AV)
  | [] => some []
  | r :: rs => (resA1 s h r).bind fun x => (resAs s h rs).map fun xs => x :: xs

def oneOf (xs : List AV) : AV := match xs with | [x] => x | xs => .tup xs

def argsE (as : List AV) : Env := fun i => as.getD i (.tup [])

/-- A function's body, abstractly. -/
def AFnOK (P : Program) (f : AFn) (as : List AV) (h : Heap) (n : Nat) (K : AV → Heap → Nat → Prop) : Prop :=
  as.length ≤ f.nt ∧ awp P f.body (argsE as) h n fun e s h n => match e with
    | .exit _ => False
    | _ => onO (resAs s h f.res) fun xs => K (oneOf xs) h n

/-- A function that is handed data, and gives back data of its own. -/
def Holds (P : Program) (f : FuncId) (as : List AV) (Q : AV → Prop) : Prop :=
  callable P f = true ∧ ∀ (w : World) (vs : List Value), VRl w Lo 0 as vs [] → Calls P f vs.toArray w fun e w' =>
    ∃ (v : Value) (r : AV) (S : List Nat), e = .returned v ∧ Q r ∧ clean r = true ∧ Below w.heap.size w w' ∧ VR w' Lo 0 r v S ∧ S.Nodup ∧ ∀ b ∈ S, w.heap.size ≤ b ∧ b < w'.heap.size

section
variable {P : Program}

theorem Holds.mono {f : FuncId} {as : List AV} {Q Q' : AV → Prop} (h : Holds P f as Q) (hq : ∀ r, Q r → Q' r) : Holds P f as Q' :=
  ⟨h.1, fun w vs hv => (h.2 w vs hv).mono fun _ _ ⟨v, r, S, h1, h2, h3⟩ => ⟨v, r, S, h1, hq r h2, h3⟩⟩

theorem argsE_rel {w : World} {L : Nat → Option Loc} {N : Nat} {as : List AV} {vs : List Value} (h : VRl w L N as vs []) (k : Nat) : SRel w L N (argsE as) (vs.toArray ++ Array.replicate k undef) := by
  intro i
  unfold argsE
  have hl := VRl_length h
  by_cases hi : i < as.length
  · obtain ⟨v, g1, g2⟩ := VRl_get_nil h (List.getElem?_eq_getElem hi)
    rw [List.getD_eq_getElem?_getD, List.getElem?_eq_getElem hi]
    have : (vs.toArray ++ Array.replicate k undef).getD i undef = v := by
      rw [Array.getD_eq_getD_getElem?, Array.getElem?_append_left (by simp; omega)]
      simp [g1]
    rw [this]; exact g2
  · rw [List.getD_eq_getElem?_getD, List.getElem?_eq_none (by omega)]
    have : (vs.toArray ++ Array.replicate k undef).getD i undef = undef := by
      rw [Array.getD_eq_getD_getElem?, Array.getElem?_append_right (by simp; omega), Array.getElem?_replicate]
      split <;> rfl
    rw [this]; simp [VR, VRl, undef]

theorem resA1_sound {G : ResultVar → Sem Value} {base : Nat} {w0 w : World} {L : Nat → Option Loc} {N : Nat} {F : Nat → List Nat} {h : Heap} {s : Env} {tmps : Array Value} (hG1 : ∀ t, G (.tmp t) = pure (tmps.getD t undef)) (hG2 : ∀ a t, G (.cell a t) = do loadVar t (← asAddr (tmps.getD a undef))) (H : HRel base w0 w L N F [] h) (hs : SRel w L N s tmps) {rv : ResultVar} {r : RV} {x : AV}
    (hc : compR P rv = some r) (hx : resA1 s h r = some x) :
    ∃ v, (G rv).run P w = .ok v w ∧ VR w L N x v [] := by
  unfold compR at hc
  split at hc
  · cases hc
    simp only [resA1, Option.some.injEq] at hx
    subst hx
    exact ⟨_, by rw [hG1]; rfl, hs _⟩
  · split at hc
    · rename_i a t _ _ g i hg hi
      cases hc
      simp only [resA1] at hx
      split at hx
      · rename_i id r c hev
        have hv := hs a
        rw [hev] at hv
        split at hx
        · rename_i B hB
          split at hx
          · rename_i hr
            obtain ⟨b, o, vs, S', he, g1, g2, g3⟩ := H.row hB hv hr
            have key : ∃ v, (loadVar t ⟨b, o + c, Option.none⟩).run P w = .ok v w ∧ VR w L N x v [] := by
              cases hbox : B.box
              · rw [hbox] at hx g1
                simp only [Bool.false_eq_true, if_false] at g1
                obtain ⟨v, e1, e2⟩ := ldv_raw (P := P) (L := L) (N := 0) hg hi rfl (VRl_dr _ _ _ g1) g2 (ldv_dr hx)
                exact ⟨v, e1, VR_ext ⟨Nat.zero_le _, fun _ _ hid => absurd hid (Nat.not_lt_zero _), Nat.le_refl _, fun _ _ h => ⟨rfl, h⟩⟩ _ _ _ e2⟩
              · rw [hbox] at hx g1
                simp only [if_true] at g1
                rw [g3 hbox] at g1
                exact ldv_raw hg hi rfl g1 g2 hx
            obtain ⟨v, e1, e2⟩ := key
            refine ⟨v, ?_, e2⟩
            rw [hG2, he]
            simp [asAddr, e1]
          · cases hx
        · cases hx
      · cases hx
    · cases hc

theorem resAs_sound {G : ResultVar → Sem Value} {base : Nat} {w0 w : World} {L : Nat → Option Loc} {N : Nat} {F : Nat → List Nat} {h : Heap} {s : Env} {tmps : Array Value} (hG1 : ∀ t, G (.tmp t) = pure (tmps.getD t undef)) (hG2 : ∀ a t, G (.cell a t) = do loadVar t (← asAddr (tmps.getD a undef))) (H : HRel base w0 w L N F [] h) (hs : SRel w L N s tmps) :
    ∀ {rvs : List ResultVar} {rs : List RV} {xs : List AV}, rvs.mapM (compR P) = some rs → resAs s h rs = some xs →
    ∃ vs, (rvs.mapM G).run P w = .ok vs w ∧ VRl w L N xs vs []
  | [], rs, xs, hc, hx => by
    simp at hc; subst hc
    simp only [resAs, Option.some.injEq] at hx; subst hx
    exact ⟨[], by simp, rfl, rfl⟩
  | rv :: rvs, rs, xs, hc, hx => by
    rw [List.mapM_cons] at hc
    simp only [Option.bind_eq_bind, Option.bind_eq_some_iff, Option.pure_def, Option.some.injEq] at hc
    obtain ⟨r, hr, rs', hrs, rfl⟩ := hc
    simp only [resAs, Option.bind_eq_some_iff, Option.map_eq_some_iff] at hx
    obtain ⟨x, hx1, xs', hx2, rfl⟩ := hx
    obtain ⟨v, e1, e2⟩ := resA1_sound hG1 hG2 H hs hr hx1
    obtain ⟨vs, k1, k2⟩ := resAs_sound hG1 hG2 H hs hrs hx2
    refine ⟨v :: vs, ?_, VRl_nil_cons.2 ⟨v, vs, rfl, e2, k2⟩⟩
    rw [List.mapM_cons, Sem.run_bind, e1]
    simp only [Result.andThen_ok, Sem.run_bind, k1]
    rfl

/-- A function's abstract body serves its calls. -/
theorem acall_of_body {f : FuncId} {fn : Func} {af : AFn} {as : List AV} {h : Heap} {n : Nat} {K : AV → Heap → Nat → Prop} (hf : P.funcs[f]? = some fn) (hc : compFn P fn = some af) (hn : (fn.name == "runtime.NumGoroutine") = false)
    (hK : AFnOK P af as h n K) : ACall P f as h n K := by
  unfold compFn at hc
  split at hc
  · rename_i c hb
    simp only [Option.bind_eq_some_iff, Option.map_eq_some_iff] at hc
    obtain ⟨b, hbc, rs, hrs, rfl⟩ := hc
    refine ⟨by simp [callable, hf, hb, hn], fun base w0 w L F vs H hv => ?_⟩
    have hl := VRl_length hv
    obtain ⟨hle, hK⟩ := hK
    simp only at hle
    refine calls_of_wp hf hb ?_
    have hrel : Rel base w0 w L n fn.ntmps (argsE as) h n { tmps := vs.toArray ++ Array.replicate (fn.ntmps - vs.toArray.size) undef, defers := [] } w :=
      ⟨rfl, by simp; omega, L, F, H, argsE_rel hv _, Ext.refl _ _ _⟩
    refine wp_mono (awp_sound c b hbc _ _ _ _ _ _ hrel hK) ?_
    rintro e a w' ⟨ae, s, h', n', he, ⟨hdf, hsz, L', F', H', hs', hext⟩, hq⟩
    have key : ∀ xs, resAs s h' rs = some xs → K (oneOf xs) h' n' → ∃ v, (results fn a.tmps).run P w' = .ok v w' ∧ ∃ (v' : Value) (r : AV) (L' : Nat → Option Loc) (n' : Nat) (F' : Nat → List Nat) (h' : Heap), Ending.returned v = .returned v' ∧
        HRel base w0 w' L' n' F' [] h' ∧ Ext w L n w' L' n' ∧ VR w' L' n' r v' [] ∧ K r h' n' := by
      intro xs hxs hk
      obtain ⟨G, hG1, hG2, hG3⟩ : ∃ G : ResultVar → Sem Value, (∀ t, G (.tmp t) = pure (a.tmps.getD t undef)) ∧ (∀ a' t, G (.cell a' t) = do loadVar t (← asAddr (a.tmps.getD a' undef))) ∧
          results fn a.tmps = (do let vs ← fn.results.mapM G; pure (if h : vs.size = 1 then vs[0] else .tuple vs)) := ⟨_, fun _ => rfl, fun _ _ => rfl, rfl⟩
      obtain ⟨us, e1, e2⟩ := resAs_sound (P := P) hG1 hG2 H' hs' hrs hxs
      have hm : (fn.results.mapM G).run P w' = .ok us.toArray w' := by
        rw [Array.mapM_eq_mapM_toList]
        simp only [map_eq_pure_bind, Sem.run_bind, e1, Result.andThen_ok, Sem.run_pure]
      have hul := VRl_length e2
      refine ⟨if h : us.toArray.size = 1 then us.toArray[0] else .tuple us.toArray, ?_, _, oneOf xs, L', n', F', h', rfl, H', hext, ?_, hk⟩
      · rw [hG3, Sem.run_bind, hm]; rfl
      · match xs, us, e2, hul with
        | [], us, e2, hul =>
          have : us = [] := List.eq_nil_of_length_eq_zero (by simpa using hul)
          subst this
          simp [oneOf, VR, VRl]
        | [x], us, e2, hul =>
          obtain ⟨u, us', rfl, g1, g2⟩ := VRl_nil_cons.1 e2
          have : us' = [] := List.eq_nil_of_length_eq_zero (by simpa using hul)
          subst this
          simpa [oneOf] using g1
        | x :: y :: xs, us, e2, hul =>
          have : ¬ us.toArray.size = 1 := by simp; simp at hul; omega
          rw [dif_neg this]
          simp only [oneOf, VR]
          exact ⟨_, rfl, by simpa using e2⟩
    cases ae <;> cases e <;> simp only [Ends] at he <;> simp only [bodyPost]
    · change onO _ _ at hq
      unfold onO at hq
      split at hq
      · rename_i xs hxs
        obtain ⟨v, g1, g2⟩ := key xs hxs hq
        exact ⟨hdf, v, g1, g2⟩
      · exact hq.elim
    · exact hq.elim
    · change onO _ _ at hq
      unfold onO at hq
      split at hq
      · rename_i xs hxs
        obtain ⟨v, g1, g2⟩ := key xs hxs hq
        exact ⟨hdf, v, g1, g2⟩
      · exact hq.elim
  · cases hc

def noHeap : Heap := fun _ => Option.none

/-- From a body to a claim of data alone. -/
theorem holds_of_acall {f : FuncId} {as : List AV} {Q : AV → Prop} (h : ACall P f as noHeap 0 fun r h _ => onO (dt r h) fun q => clean q.1 = true ∧ Q q.1) : Holds P f as Q := by
  refine ⟨h.1, fun w vs hv => ?_⟩
  have H0 : HRel w.heap.size w w Lo 0 (fun _ => []) [] noHeap :=
    ⟨Below.refl _ _, Nat.le_refl _, fun _ _ => rfl, fun _ _ => rfl, (fun _ _ h => by cases h), (fun _ _ _ _ _ _ _ h => by cases h), fun b h => absurd h (not_own_Lo b), (fun _ _ _ h => by cases h), by simp, by simp, by simp, by simp, by simp, by simp⟩
  refine (h.2 w.heap.size w w Lo (fun _ => []) vs H0 hv).mono ?_
  rintro e w' ⟨v, r, L', n', F', h', rfl, H', hext, hr, hq⟩
  unfold onO at hq
  split at hq
  · rename_i q hq'
    obtain ⟨L2, F2, S, g1, g2, g3⟩ := dt_sound r H' hr hq'
    rw [List.append_nil] at g1
    exact ⟨v, q.1, S, rfl, hq.2, hq.1, H'.below, VR_env q.1 v S hq.1 (fun b _ => not_own_Lo b) g2, g1.ne, fun b hb => ⟨(g1.ep b hb).2.1, (g1.ep b hb).2.2⟩⟩
  · exact hq.elim

/-- A claim of data alone, used at a call. -/
theorem acall_of_holds {f : FuncId} {as as' : List AV} {h : Heap} {n : Nat} {Q : AV → Prop} {K : AV → Heap → Nat → Prop} (hh : Holds P f as' Q) (hb : bwl as h = some as')
    (hK : ∀ r, Q r → K (sub r n) (addAll h n (col r)) (n + (col r).length)) : ACall P f as h n K := by
  refine ⟨hh.1, fun base w0 w L F vs H hv => ?_⟩
  refine (hh.2 w vs (bwl_sound H as hv hb)).mono ?_
  rintro e w' ⟨v, r, S, rfl, hq, hcl, hbel, hr, hnd, hS⟩
  obtain ⟨L', F', g1, g2, g3⟩ := H.take hbel hcl hr hnd hS
  exact ⟨v, _, L', _, F', _, rfl, g1, g3, g2, hK r hq⟩

/-- The same, in a region that draws its order. -/
theorem acallE_of_holds {f : FuncId} {as as' : List AV} {h : Heap} {n : Nat} {Q : AV → Prop} {K : AV → Heap → Nat → Prop} (hh : Holds P f as' Q) (hb : bwl as h = some as')
    (hK : ∀ r, Q r → K (sub r n) (addAll h n (col r)) (n + (col r).length)) : ACall P f as h n fun r h' n' => hext h h' ∧ K r h' n' := by
  refine ⟨hh.1, fun base w0 w L F vs H hv => ?_⟩
  refine (hh.2 w vs (bwl_sound H as hv hb)).mono ?_
  rintro e w' ⟨v, r, S, rfl, hq, hcl, hbel, hr, hnd, hS⟩
  obtain ⟨L', F', g1, g2, g3⟩ := H.take hbel hcl hr hnd hS
  refine ⟨v, _, L', _, F', _, rfl, g1, g3, g2, fun id B hB => ?_, hK r hq⟩
  have hlt : id < n := by
    cases hl : L id with
    | none => rw [H.mod id hl] at hB; cases hB
    | some l => exact H.lt id l hl
  rw [addAll_eq, if_neg (by omega)]; exact hB

end

end Go.Proofs.Ytlefdibgonpoaaa
