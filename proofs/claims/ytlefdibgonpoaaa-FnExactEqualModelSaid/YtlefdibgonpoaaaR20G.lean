/- Operations whose order is drawn: the tree that is walked serves every order. -/
import Derived.Test.YtlefdibgonpoaaaR20F
namespace Go.Proofs.Ytlefdibgonpoaaa
open Go Go.RowKit

theorem mapM_get {α β : Type} {f : α → Option β} : ∀ {l : List α} {m : List β}, l.mapM f = some m → m.length = l.length ∧ ∀ (i : Nat) a, l[i]? = some a → ∃ b, m[i]? = some b ∧ f a = some b
  | [], m, h => by simp at h; subst h; simp
  | x :: l, m, h => by
    rw [List.mapM_cons] at h
    simp only [Option.bind_eq_bind, Option.bind_eq_some_iff, Option.pure_def, Option.some.injEq] at h
    obtain ⟨y, hy, m', hm, rfl⟩ := h
    obtain ⟨h1, h2⟩ := mapM_get hm
    refine ⟨by simp [h1], fun i a hi => ?_⟩
    cases i with
    | zero => simp at hi; subst hi; exact ⟨y, by simp, hy⟩
    | succ i => simp at hi; simpa using h2 i a hi

def lsd (ls : Array Bool) (i : Nat) : Bool := ls.getD i false

theorem ready_iff {ops : Array Oper} {ls : Array Bool} {i : Nat} : i ∈ Region.ready .any ops ls ↔ i < ops.size ∧ ls.getD i true = false ∧ ∀ p ∈ preds ops i, lsd ls p = true := by
  unfold Region.ready
  rw [List.mem_filter, List.mem_range]
  constructor
  · rintro ⟨h1, h2⟩
    simp only [Bool.and_eq_true, Bool.not_eq_true'] at h2
    refine ⟨h1, h2.1, fun p hp => ?_⟩
    have ho : ops[i]? = some ops[i] := Array.getElem?_eq_getElem h1
    rw [ho] at h2
    simp only [preds, ho, List.mem_map, List.mem_filter] at hp
    obtain ⟨e, ⟨he, hb⟩, rfl⟩ := hp
    have h3 := h2.2
    simp only [Option.map_some, Option.getD_some] at h3
    rw [Array.all_eq_true'] at h3
    have := h3 e (by simpa using he)
    simpa [hb, lsd] using this
  · rintro ⟨h1, h2, h3⟩
    refine ⟨h1, ?_⟩
    have ho : ops[i]? = some ops[i] := Array.getElem?_eq_getElem h1
    simp only [ho, h2, Option.map_some, Option.getD_some, Bool.not_false, Bool.true_and]
    rw [Array.all_eq_true']
    intro e he
    by_cases hb : Region.binds .any e = true
    · have := h3 e.on (by simp only [preds, ho, List.mem_map, List.mem_filter]; exact ⟨e, ⟨by simpa using he, hb⟩, rfl⟩)
      simp only [lsd] at this
      simp [this]
    · simp [hb]

def unl (N : Nat) (ls : Array Bool) : Nat := (List.range N).countP fun i => !(ls.getD i true)

theorem countP_lt {l : List Nat} {p q : Nat → Bool} (h : ∀ x ∈ l, q x = true → p x = true) {i : Nat} (hi : i ∈ l) (hp : p i = true) (hq : q i = false) : l.countP q < l.countP p := by
  induction l with
  | nil => cases hi
  | cons x l ih =>
    rw [List.countP_cons, List.countP_cons]
    have hle : l.countP q ≤ l.countP p := List.countP_mono_left fun y hy => h y (List.mem_cons_of_mem _ hy)
    rcases List.mem_cons.1 hi with rfl | hi
    · rw [if_neg (by simp [hq]), if_pos hp]; omega
    · have := ih (fun y hy => h y (List.mem_cons_of_mem _ hy)) hi
      by_cases hqx : q x = true
      · rw [if_pos hqx, if_pos (h x List.mem_cons_self hqx)]; omega
      · rw [if_neg hqx]; split <;> omega

theorem lsd_set {ls : Array Bool} {i j : Nat} (hi : i < ls.size) : lsd (ls.setIfInBounds i true) j = (if j = i then true else lsd ls j) := by
  simp only [lsd, Array.getD_eq_getD_getElem?, Array.getElem?_setIfInBounds]
  by_cases h : i = j
  · subst h; simp [hi]
  · rw [if_neg h, if_neg (fun e => h e.symm)]

theorem getD_lsd {ls : Array Bool} {i : Nat} (hi : i < ls.size) : ls.getD i true = lsd ls i := by
  simp [lsd, Array.getD, hi]

section
variable {P : Program} {base : Nat} {w0 w1 : World} {L1 : Nat → Option Loc} {n1 nt : Nat} {ops : Array Oper} {aos : List AO} {rs : List Nat} {K : Env → Heap → Nat → Prop}

structure Chk (aos : List AO) (pre : Nat → List Nat) (rs : List Nat) : Prop where
  lt : ∀ i, i < aos.length → ∀ p ∈ pre i, p < i
  cs : ∀ i, i < aos.length → i ∉ rs → ∀ d, dOf aos i = some d → ∀ j, j < aos.length → j ≠ i → d ∈ rdI aos j → i ∈ pre j ∨ j ∈ pre i
  rp : ∀ i, i < aos.length → i ∈ rs → ∃ o d, aos[i]? = some o ∧ pureO o.op = true ∧ o.d = some d ∧ d ∉ rdI aos i ∧ ∀ j, j < aos.length → j ≠ i → dOf aos j ≠ some d ∧ (d ∈ rdI aos j → i ∈ pre j)

theorem Chk.of {pre : Nat → List Nat} (h : chkD aos pre rs = true) : Chk aos pre rs := by
  unfold chkD at h
  rw [List.all_eq_true] at h
  have h := fun i hi => h i (List.mem_range.2 hi)
  refine ⟨fun i hi p hp => ?_, fun i hi hr d hd j hj hne hmem => ?_, fun i hi hr => ?_⟩
  · have h1 := h i hi
    simp only [Bool.and_eq_true] at h1
    have h2 := List.all_eq_true.1 h1.1.1 p hp
    exact Nat.blt_eq ▸ h2
  · have h1 := h i hi
    simp only [Bool.and_eq_true, Bool.or_eq_true] at h1
    rcases h1.2 with h2 | h2
    · exact absurd (memN_iff.1 h2) hr
    · rw [hd] at h2
      simp only at h2
      rw [List.all_eq_true] at h2
      have h3 := h2 j (List.mem_range.2 hj)
      simp only [Bool.or_eq_true, Nat.beq_eq, Bool.not_eq_true', memN_iff] at h3
      rcases h3 with ((h3 | h3) | h3) | h3
      · exact absurd h3 hne
      · exact absurd (memN_iff.2 hmem) (by simp [h3])
      · exact .inl h3
      · exact .inr h3
  · have h1 := h i hi
    simp only [Bool.and_eq_true, beq_iff_eq] at h1
    have h2 : isR aos pre i = true := by rw [← h1.1.2]; exact memN_iff.2 hr
    unfold isR at h2
    split at h2
    · rename_i o ho
      simp only [Bool.and_eq_true] at h2
      obtain ⟨hp, h2⟩ := h2
      split at h2
      · rename_i d hd
        rw [List.all_eq_true] at h2
        refine ⟨o, d, ho, hp, hd, ?_, fun j hj hne => ?_⟩
        · have h3 := h2 i (List.mem_range.2 hi)
          simp only [Nat.beq_refl, if_true, Bool.not_eq_true'] at h3
          intro hm; rw [memN_iff.2 hm] at h3; cases h3
        · have h3 := h2 j (List.mem_range.2 hj)
          rw [if_neg (by simpa using hne)] at h3
          simp only [Bool.and_eq_true, Bool.not_eq_true', Bool.or_eq_true, memN_iff] at h3
          refine ⟨fun hdj => ?_, fun hm => ?_⟩
          · have := h3.1; simp [isD, hdj] at this
          · rcases h3.2 with h4 | h4
            · rw [memN_iff.2 hm] at h4; cases h4
            · exact h4
      · cases h2
    · cases h2

structure DInv (P : Program) (base : Nat) (w0 w1 : World) (L1 : Nat → Option Loc) (n1 nt : Nat) (ops : Array Oper) (aos : List AO) (rs : List Nat) (K : Env → Heap → Nat → Prop)
    (ls : Array Bool) (a : Act) (w : World) (f : Nat) (dn : List Nat) (s : Env) (h : Heap) (n : Nat) : Prop where
  sz : ls.size = aos.length
  rel : ∃ sm, Rel base w0 w1 L1 n1 nt sm h n a w ∧ ∀ t, sm t = s t ∨ (sm t = .undef ∧ ∃ i ∈ dn, lsd ls i = false ∧ i ∈ rs ∧ dOf aos i = some t)
  clo : ∀ i, lsd ls i = true → ∀ p ∈ preds ops i, lsd ls p = true
  cC : ∀ i, i < aos.length → i ∉ rs → i ∈ dn → lsd ls i = true
  cR : ∀ i, lsd ls i = true → i ∈ dn
  dlt : ∀ i ∈ dn, i < aos.length
  dcl : ∀ i ∈ dn, ∀ p ∈ preds ops i, p ∈ dn
  pend : ∀ i ∈ dn, i ∈ rs → lsd ls i = false → ∃ o, aos[i]? = some o ∧ PendOK P o s h
  wp : awpD P (build aos (preds ops) rs f dn) s h n K

def Greedy (ops : Array Oper) (aos : List AO) (rs dn : List Nat) : Prop := ∀ i, i < aos.length → i ∈ rs → (∀ p ∈ preds ops i, p ∈ dn) → i ∈ dn

theorem rdyD_iff {N : Nat} {pre : Nat → List Nat} {dn : List Nat} {i : Nat} : i ∈ rdyD N pre dn ↔ i < N ∧ i ∉ dn ∧ ∀ p ∈ pre i, p ∈ dn := by
  unfold rdyD
  rw [List.mem_filter, List.mem_range]
  simp only [Bool.and_eq_true, Bool.not_eq_true', List.all_eq_true, memN_iff]
  constructor
  · rintro ⟨h1, h2, h3⟩; exact ⟨h1, (fun hm => by rw [memN_iff.2 hm] at h2; cases h2), h3⟩
  · rintro ⟨h1, h2, h3⟩; exact ⟨h1, (by cases hm : memN i dn; rfl; exact absurd (memN_iff.1 hm) h2), h3⟩

theorem DInv.greedy (hc : Chk aos (preds ops) rs) {ls : Array Bool} {a : Act} {w : World} : ∀ (f : Nat) (dn : List Nat) (s : Env) (h : Heap) (n : Nat),
    DInv P base w0 w1 L1 n1 nt ops aos rs K ls a w f dn s h n → ∃ f' dn' s', DInv P base w0 w1 L1 n1 nt ops aos rs K ls a w f' dn' s' h n ∧ Greedy ops aos rs dn'
  | 0, dn, s, h, n, I => by have := I.wp; simp [build, awpD] at this
  | f + 1, dn, s, h, n, I => by
    have hw := I.wp
    unfold build at hw
    split at hw
    · rename_i i hi
      have hi1 := List.mem_of_find?_eq_some hi
      have hi2 : i ∈ rs := memN_iff.1 (by simpa using List.find?_some hi)
      obtain ⟨hiN, hidn, hipre⟩ := rdyD_iff.1 hi1
      obtain ⟨o, d, ho, hp, hd, hself, hoth⟩ := hc.rp i hiN hi2
      rw [ho] at hw
      simp only at hw
      have hls : lsd ls i = false := by cases hl : lsd ls i; rfl; exact absurd (I.cR i hl) hidn
      have hdI : dOf aos i = some d := by simp [dOf, ho, hd]
      have hrdI : rdI aos i = rdA o := by simp [rdI, ho]
      -- the state behind it
      have next : ∀ r, awpD P (build aos (preds ops) rs f (i :: dn)) (upd s d r) h n K → PendOK P o (upd s d r) h →
          ∃ f' dn' s', DInv P base w0 w1 L1 n1 nt ops aos rs K ls a w f' dn' s' h n ∧ Greedy ops aos rs dn' := fun r hw' hpo => by
        refine DInv.greedy hc f (i :: dn) (upd s d r) h n ⟨I.sz, ?_, I.clo, ?_, fun j hj => List.mem_cons_of_mem _ (I.cR j hj), ?_, ?_, ?_, hw'⟩
        · obtain ⟨sm, hr, hsm⟩ := I.rel
          refine ⟨upd sm d .undef, hr.mask, fun t => ?_⟩
          by_cases ht : t = d
          · subst ht; exact .inr ⟨upd_same _ _ _, i, List.mem_cons_self, hls, hi2, hdI⟩
          · rw [upd_other _ _ _ _ ht, upd_other _ _ _ _ ht]
            exact (hsm t).imp id fun ⟨h1, j, hj, h2⟩ => ⟨h1, j, List.mem_cons_of_mem _ hj, h2⟩
        · intro j hj hjr hjd
          rcases List.mem_cons.1 hjd with rfl | hjd
          · exact absurd hi2 hjr
          · exact I.cC j hj hjr hjd
        · intro j hj
          rcases List.mem_cons.1 hj with rfl | hj
          · exact hiN
          · exact I.dlt j hj
        · intro j hj p hp
          rcases List.mem_cons.1 hj with rfl | hj
          · exact List.mem_cons_of_mem _ (hipre p hp)
          · exact List.mem_cons_of_mem _ (I.dcl j hj p hp)
        · intro j hj hjr hjl
          rcases List.mem_cons.1 hj with rfl | hjd
          · exact ⟨o, ho, hpo⟩
          · obtain ⟨oj, hoj, hpj⟩ := I.pend j hjd hjr hjl
            have hji : j ≠ i := fun e => hidn (e ▸ hjd)
            obtain ⟨h1, h2⟩ := hoth j (I.dlt j hjd) hji
            refine ⟨oj, hoj, hpj.mono (fun t ht => ?_) (fun e he => ?_) (fun _ => hext.refl _)⟩
            · have : t ≠ d := fun e => by
                subst e
                exact hidn (I.dcl j hjd i (h2 (by simp [rdI, hoj, ht])))
              rw [upd_other _ _ _ _ this]
            · have : e ≠ d := fun e' => h1 (by simp [dOf, hoj, he, e'])
              rw [upd_other _ _ _ _ this]
      have hag : ∀ r, agree s (upd s d r) (rdO o.op) := fun r t ht => by
        have : t ≠ d := fun e => hself (by rw [hrdI, ← e]; exact rdA_op ht)
        rw [upd_other _ _ _ _ this]
      simp only [awpD] at hw
      cases hg : o.g with
      | none =>
        rw [hg] at hw
        simp only at hw
        obtain ⟨r, hw', hfix⟩ := pure_fix hp hw
        rw [hd] at hw'
        refine next r hw' ⟨d, hd, ?_⟩
        rw [hg]
        simp only [upd_same]
        exact hfix.mono (hag r) (fun _ => hext.refl _)
      | some p =>
        obtain ⟨q, want⟩ := p
        have hqd : q ≠ d := fun e => hself (by rw [hrdI, ← e]; exact rdA_g hg)
        rw [hg] at hw
        simp only at hw
        split at hw
        · rename_i b hb
          by_cases hbw : b = want
          · have hw1 := hw.1 hbw
            rw [upd_self (by rw [hb, hbw])] at hw1
            obtain ⟨r, hw', hfix⟩ := pure_fix hp hw1
            rw [hd] at hw'
            refine next r hw' ⟨d, hd, ?_⟩
            rw [hg]
            simp only [upd_same, upd_other _ _ _ _ hqd]
            exact .inl ⟨by rw [hb, hbw], hfix.mono (hag r) (fun _ => hext.refl _)⟩
          · have hbn : b = !want := by cases b <;> cases want <;> simp at hbw ⊢
            have hw1 := hw.2 hbn
            rw [upd_self (by rw [hb, hbn]), hd] at hw1
            refine next _ hw1 ⟨d, hd, ?_⟩
            rw [hg]
            simp only [upd_same, upd_other _ _ _ _ hqd]
            exact .inr ⟨.inl (by rw [hb, hbn]), trivial⟩
        · rename_i hb
          rw [hd] at hw
          refine next _ hw ⟨d, hd, ?_⟩
          rw [hg]
          simp only [upd_same, upd_other _ _ _ _ hqd]
          exact .inr ⟨.inr hb, trivial⟩
        · exact hw.elim
    · rename_i hnone
      refine ⟨f + 1, dn, s, I, fun i hiN hir hip => ?_⟩
      by_cases hidn : i ∈ dn
      · exact hidn
      · have := List.find?_eq_none.1 hnone i (rdyD_iff.2 ⟨hiN, hidn, hip⟩)
        exact absurd (memN_iff.2 hir) (by simpa using this)


theorem Rel.fresh {s : Env} {h : Heap} {n : Nat} {a : Act} {w : World} (hr : Rel base w0 w1 L1 n1 nt s h n a w) : h n = Option.none := by
  obtain ⟨_, _, L, F, H, _⟩ := hr
  refine H.mod n ?_
  cases hl : L n with
  | none => rfl
  | some l => exact absurd (H.lt n l hl) (Nat.lt_irrefl _)

theorem awpO_one {P : Program} {o : AO} {s : Env} {h : Heap} {n : Nat} {K : Env → Heap → Nat → Prop} (hn : o.g = Option.none) (hk : aop P s h n (fun r h' n' => K (setO s o.d r) h' n') o.op) : awpO P [o] s h n K := by
  simp only [awpO, hn]; exact hk

theorem unl_set {N : Nat} {ls : Array Bool} {i : Nat} (hN : ls.size = N) (hi : i < N) (hl : ls.getD i true = false) : unl N (ls.setIfInBounds i true) < unl N ls := by
  refine countP_lt (i := i) (fun x hx => ?_) (List.mem_range.2 hi) (by simp [hl]) ?_
  · have hx' : x < ls.size := by rw [hN]; exact List.mem_range.1 hx
    have hx2 : x < (ls.setIfInBounds i true).size := by simpa using hx'
    have hi' : i < ls.size := by rw [hN]; exact hi
    rw [getD_lsd hx', getD_lsd hx2, lsd_set hi']
    split
    · simp
    · exact id
  · have hi' : i < ls.size := by rw [hN]; exact hi
    have hx2 : i < (ls.setIfInBounds i true).size := by simpa using hi'
    rw [getD_lsd hx2, lsd_set hi', if_pos rfl]; rfl

theorem awpD_any (hos : ops.toList.mapM (compO P nt ops) = some aos) (hc : Chk aos (preds ops) rs) {Q : Exit → Act → World → Prop}
    (hQ : ∀ s h n a w, Rel base w0 w1 L1 n1 nt s h n a w → K s h n → Q .normal a w) :
    ∀ (fuel : Nat) (ls : Array Bool) (a : Act) (w : World) (f : Nat) (dn : List Nat) (s : Env) (h : Heap) (n : Nat),
    DInv P base w0 w1 L1 n1 nt ops aos rs K ls a w f dn s h n → Greedy ops aos rs dn → unl aos.length ls ≤ fuel → wpAny P .any ops Q fuel ls a w := by
  have hlen : aos.length = ops.size := by rw [(mapM_get hos).1]; simp
  intro fuel
  have fin : ∀ (ls : Array Bool) (a : Act) (w : World) (f : Nat) (dn : List Nat) (s : Env) (h : Heap) (n : Nat),
    DInv P base w0 w1 L1 n1 nt ops aos rs K ls a w f dn s h n → Region.ready .any ops ls = [] → Q .normal a w := by
    intro ls a w f dn s h n I hr
    have hall : ∀ i, i < aos.length → lsd ls i = true := by
      intro i
      induction i using Nat.strongRecOn with
      | ind i ih =>
        intro hi
        cases hl : lsd ls i with
        | true => rfl
        | false =>
          have : i ∈ Region.ready .any ops ls := ready_iff.2 ⟨by rw [← hlen]; exact hi, by rw [getD_lsd (by rw [I.sz]; exact hi)]; exact hl, fun p hp => ih p (hc.lt i hi p hp) (Nat.lt_trans (hc.lt i hi p hp) hi)⟩
          rw [hr] at this; cases this
    have hrd : rdyD aos.length (preds ops) dn = [] := List.eq_nil_iff_forall_not_mem.2 fun i hi => by
      obtain ⟨h1, h2, _⟩ := rdyD_iff.1 hi
      exact h2 (I.cR i (hall i h1))
    have hw := I.wp
    cases f with
    | zero => simp [build, awpD] at hw
    | succ f =>
      unfold build at hw
      rw [hrd] at hw
      simp only [List.find?_nil, List.map_nil, bothAll, awpD] at hw
      obtain ⟨sm, hrel, hsm⟩ := I.rel
      have : sm = s := funext fun t => by
        rcases hsm t with h | ⟨_, i, hi, hl, _⟩
        · exact h
        · rw [hall i (I.dlt i hi)] at hl; cases hl
      subst this
      exact hQ _ _ _ _ _ hrel hw
  induction fuel with
  | zero =>
    intro ls a w f dn s h n I hg hu
    have hr : Region.ready .any ops ls = [] := List.eq_nil_iff_forall_not_mem.2 fun i hi => by
      obtain ⟨h1, h2, _⟩ := ready_iff.1 hi
      have h0 : unl aos.length ls = 0 := by omega
      unfold unl at h0
      rw [List.countP_eq_zero] at h0
      exact h0 i (List.mem_range.2 (by rw [hlen]; exact h1)) (by simp [h2])
    exact ⟨hr, fin ls a w f dn s h n I hr⟩
  | succ fuel ih =>
    intro ls a w f dn s h n I hg hu
    refine ⟨fin ls a w f dn s h n I, fun i hi => ?_⟩
    obtain ⟨hiN', hil, hip⟩ := ready_iff.1 hi
    have hiN : i < aos.length := by rw [hlen]; exact hiN'
    have hils : i < ls.size := by rw [I.sz]; exact hiN
    have hil' : lsd ls i = false := by rw [← getD_lsd hils]; exact hil
    have hu' := unl_set I.sz hiN hil
    have ho : ops[i]? = some ops[i] := Array.getElem?_eq_getElem hiN'
    obtain ⟨ao, hao, hcomp⟩ := (mapM_get hos).2 i ops[i] (by simp)
    have hdI : dOf aos i = ao.d := by simp [dOf, hao]
    have hrdI : rdI aos i = rdA ao := by simp [rdI, hao]
    unfold wpOp
    rw [ho]
    simp only
    obtain ⟨sm, hrel, hsm⟩ := I.rel
    -- what the operation reads is there
    have hag : agree s sm (rdA ao) := fun t ht => by
      rcases hsm t with h | ⟨_, j, hj, hl, hjr, hjd⟩
      · exact h.symm
      · obtain ⟨oj, dj, hoj, _, hdj, hself, hoth⟩ := hc.rp j (I.dlt j hj) hjr
        have hdt : dj = t := by simpa [dOf, hoj, hdj] using hjd
        subst hdt
        by_cases hij : i = j
        · subst hij; exact absurd (by rw [hrdI]; exact ht) hself
        · have := (hoth i hiN hij).2 (by rw [hrdI]; exact ht)
          rw [hip j this] at hl; cases hl
    have hclo : ∀ j, lsd (ls.setIfInBounds i true) j = true → ∀ p ∈ preds ops j, lsd (ls.setIfInBounds i true) p = true := fun j hj p hp => by
      rw [lsd_set hils] at hj ⊢
      split
      · rfl
      · split at hj
        · rename_i e; subst e; exact hip p hp
        · exact I.clo j hj p hp
    by_cases hir : i ∈ rs
    · -- it has been walked
      have hidn : i ∈ dn := hg i hiN hir fun p hp => I.cR p (hip p hp)
      obtain ⟨o2, ho2, hpo⟩ := I.pend i hidn hir hil'
      have : o2 = ao := by rw [hao] at ho2; exact (Option.some.inj ho2).symm
      subst this
      obtain ⟨d, hd, hpo⟩ := hpo
      refine oneOp (K := fun s' h' n' => s' = upd sm d (s d) ∧ h' = h ∧ n' = n) ops hcomp hrel ?_ ?_
      · cases hgd : o2.g with
        | none =>
          rw [hgd] at hpo
          exact awpO_one hgd (hpo sm h n _ (fun t ht => hag t (rdA_op ht)) (fun _ => hext.refl _) ⟨by rw [hd]; rfl, rfl, rfl⟩)
        | some p =>
          obtain ⟨q, want⟩ := p
          rw [hgd] at hpo
          simp only at hpo
          have hq := hag q (rdA_g hgd)
          simp only [awpO, hgd]
          rcases hpo with ⟨h1, h2⟩ | ⟨h1, h2⟩
          · rw [← hq, h1]
            simp only
            refine ⟨fun _ => ?_, fun e => (by cases want <;> cases e)⟩
            rw [upd_self (by rw [← hq, h1])]
            exact h2 sm h n _ (fun t ht => hag t (rdA_op ht)) (fun _ => hext.refl _) ⟨by rw [hd]; rfl, rfl, rfl⟩
          · rcases h1 with h1 | h1
            · rw [← hq, h1]
              simp only
              refine ⟨fun e => (by cases want <;> cases e), fun _ => ?_⟩
              rw [upd_self (by rw [← hq, h1])]
              exact ⟨by rw [hd, h2]; rfl, trivial, trivial⟩
            · rw [← hq, h1]
              simp only
              exact ⟨by rw [hd, h2]; rfl, trivial, trivial⟩
      · rintro s' h' n' a' w' hrel' ⟨rfl, rfl, rfl⟩
        refine ih _ a' w' f dn s h' n' ⟨by simpa using I.sz, ⟨_, hrel', fun t => ?_⟩, hclo, fun j hj hjr hjd => ?_, fun j hj => ?_, I.dlt, I.dcl, fun j hj hjr hjl => ?_, I.wp⟩ hg (by omega)
        · by_cases ht : t = d
          · subst ht; exact .inl (upd_same _ _ _)
          · rw [upd_other _ _ _ _ ht]
            refine (hsm t).imp id fun ⟨h1, j, hj, hl, h2, h3⟩ => ⟨h1, j, hj, ?_, h2, h3⟩
            rw [lsd_set hils, if_neg]
            · exact hl
            · rintro rfl; exact ht (by rw [hdI, hd] at h3; exact (Option.some.inj h3).symm)
        · rw [lsd_set hils]; split
          · rfl
          · exact I.cC j hj hjr hjd
        · rw [lsd_set hils] at hj; split at hj
          · rename_i e; rw [e]; exact hidn
          · exact I.cR j hj
        · rw [lsd_set hils] at hjl; split at hjl
          · cases hjl
          · exact I.pend j hj hjr hjl
    · -- it is walked now
      have hidn : i ∉ dn := fun h => by rw [I.cC i hiN hir h] at hil'; cases hil'
      have hpdn : ∀ p ∈ preds ops i, p ∈ dn := fun p hp => I.cR p (hip p hp)
      have hw := I.wp
      cases f with
      | zero => simp [build, awpD] at hw
      | succ f =>
        unfold build at hw
        have hnone : (rdyD aos.length (preds ops) dn).find? (fun i => memN i rs) = Option.none := by
          rw [List.find?_eq_none]
          intro j hj hjr
          obtain ⟨h1, h2, h3⟩ := rdyD_iff.1 hj
          exact h2 (hg j h1 (memN_iff.1 hjr) h3)
        rw [hnone] at hw
        simp only at hw
        have hw := bothAll_mem (List.mem_map.2 ⟨i, rdyD_iff.2 ⟨hiN, hidn, hpdn⟩, rfl⟩) hw
        rw [hao] at hw
        simp only at hw
        split at hw
        rotate_left
        · exact hw.elim
        rename_i hkind
        -- what is pending stays so
        have hpend : ∀ (d' : Option Nat) (r : AV) (h' : Heap), d' = ao.d → (hext h h' ∨ ∀ j ∈ dn, j ∈ rs → j ∈ preds ops i ∨ heapI aos j = false) → ∀ j ∈ dn, j ∈ rs → lsd ls j = false → ∃ o, aos[j]? = some o ∧ PendOK P o (setO s d' r) h' := by
          intro d' r h' hd' he j hj hjr hjl
          obtain ⟨oj, hoj, hpj⟩ := I.pend j hj hjr hjl
          have hji : j ≠ i := fun e => hidn (e ▸ hj)
          have he : heapO oj.op = true → hext h h' := by
            rcases he with he | he
            · exact fun _ => he
            · rcases he j hj hjr with he | he
              · rw [hip j he] at hjl; cases hjl
              · intro e; simp [heapI, hoj, e] at he
          refine ⟨oj, hoj, ?_⟩
          subst hd'
          cases hd : ao.d with
          | none => exact hpj.mono (fun _ _ => rfl) (fun _ _ => rfl) he
          | some d =>
            obtain ⟨_, dj, hoj', _, hdj, _, hoth⟩ := hc.rp j (I.dlt j hj) hjr
            refine hpj.mono (fun t ht => ?_) (fun e he' => ?_) he
            · have : t ≠ d := fun e => by
                subst e
                rcases hc.cs i hiN hir t (by rw [hdI, hd]) j (I.dlt j hj) hji (by simp [rdI, hoj, ht]) with h1 | h1
                · exact hidn (I.dcl j hj i h1)
                · rw [hip j h1] at hjl; cases hjl
              simp only [setO, upd_other _ _ _ _ this]
            · have : e ≠ d := fun e2 => by
                subst e2
                rw [hoj] at hoj'; cases hoj'
                rw [hdj] at he'; cases he'
                exact (hoth i hiN (fun e => hji e.symm)).1 (by rw [hdI, hd])
              simp only [setO, upd_other _ _ _ _ this]
        -- and the machine goes on
        have hgo : ∀ (r : AV) (h' : Heap) (n' : Nat) (a' : Act) (w' : World), Rel base w0 w1 L1 n1 nt (setO sm ao.d r) h' n' a' w' → (hext h h' ∨ ∀ j ∈ dn, j ∈ rs → j ∈ preds ops i ∨ heapI aos j = false) →
            awpD P (build aos (preds ops) rs f (i :: dn)) (setO s ao.d r) h' n' K → wpAny P .any ops Q fuel (ls.setIfInBounds i true) a' w' := by
          intro r h' n' a' w' hrel' he hw'
          have I' : DInv P base w0 w1 L1 n1 nt ops aos rs K (ls.setIfInBounds i true) a' w' f (i :: dn) (setO s ao.d r) h' n' := by
            refine ⟨by simpa using I.sz, ⟨_, hrel', fun t => ?_⟩, hclo, fun j hj hjr hjd => ?_, fun j hj => ?_, fun j hj => ?_, fun j hj p hp => ?_, fun j hj hjr hjl => ?_, hw'⟩
            · have old : ∀ (hne : ao.d ≠ some t), sm t = s t ∨ (sm t = .undef ∧ ∃ j ∈ i :: dn, lsd (ls.setIfInBounds i true) j = false ∧ j ∈ rs ∧ dOf aos j = some t) := fun hne =>
                (hsm t).imp id fun ⟨h1, j, hj, hl, h2, h3⟩ => ⟨h1, j, List.mem_cons_of_mem _ hj, (by have hji : j ≠ i := (fun e => hidn (e ▸ hj)); rw [lsd_set hils, if_neg hji]; exact hl), h2, h3⟩
              cases hd : ao.d with
              | none => exact old (by rw [hd]; simp)
              | some d =>
                simp only [setO]
                by_cases ht : t = d
                · subst ht; exact .inl (by rw [upd_same, upd_same])
                · rw [upd_other _ _ _ _ ht, upd_other _ _ _ _ ht]
                  exact old (by rw [hd]; exact fun e => ht (Option.some.inj e).symm)
            · rw [lsd_set hils]; split
              · rfl
              · rename_i hne
                rcases List.mem_cons.1 hjd with rfl | hjd
                · exact absurd rfl hne
                · exact I.cC j hj hjr hjd
            · rw [lsd_set hils] at hj; split at hj
              · rename_i e; rw [e]; exact List.mem_cons_self
              · exact List.mem_cons_of_mem _ (I.cR j hj)
            · rcases List.mem_cons.1 hj with rfl | hj
              · exact hiN
              · exact I.dlt j hj
            · rcases List.mem_cons.1 hj with rfl | hj
              · exact List.mem_cons_of_mem _ (hpdn p hp)
              · exact List.mem_cons_of_mem _ (I.dcl j hj p hp)
            · rw [lsd_set hils] at hjl
              split at hjl
              · cases hjl
              · rename_i hne
                rcases List.mem_cons.1 hj with rfl | hj
                · exact absurd rfl hne
                · exact hpend _ r h' rfl he j hj hjr hjl
          obtain ⟨f', dn', s', I2, hg2⟩ := I'.greedy hc
          exact ih _ a' w' f' dn' s' h' n' I2 hg2 (by omega)
        -- the operation itself
        have run : ∀ (sx : Env), aopD P s h n (fun r h' n' => awpD P (build aos (preds ops) rs f (i :: dn)) (setO s ao.d r) h' n' K) ao.op →
            aop P sm h n (fun r h' n' => (hext h h' ∨ ∀ j ∈ dn, j ∈ rs → j ∈ preds ops i ∨ heapI aos j = false) ∧ awpD P (build aos (preds ops) rs f (i :: dn)) (setO s ao.d r) h' n' K) ao.op := fun _ hk => by
          rw [← aop_congr (fun t ht => hag t (rdA_op ht))]
          by_cases hso : softO ao.op = true
          · exact aop_mono (soft_hext hso hrel.fresh hk) fun _ _ _ h => ⟨.inl h.1, h.2⟩
          · rw [Bool.or_eq_true] at hkind
            rcases hkind with hk1 | hk1
            · exact absurd hk1 hso
            · have hall : ∀ j ∈ dn, j ∈ rs → j ∈ preds ops i ∨ heapI aos j = false := fun j hj hjr => by
                have := List.all_eq_true.1 hk1 j hj
                simp only [Bool.or_eq_true, Bool.not_eq_true', memN_iff] at this
                rcases this with (h1 | h1) | h1
                · rw [memN_iff.2 hjr] at h1; cases h1
                · exact .inl h1
                · exact .inr h1
              exact aop_mono (aop_of_aopD hk) fun _ _ _ h => ⟨.inr hall, h⟩
        refine oneOp (K := fun s' h' n' => ∃ r, s' = setO sm ao.d r ∧ (hext h h' ∨ ∀ j ∈ dn, j ∈ rs → j ∈ preds ops i ∨ heapI aos j = false) ∧ awpD P (build aos (preds ops) rs f (i :: dn)) (setO s ao.d r) h' n' K) ops hcomp hrel ?_ ?_
        · simp only [awpD] at hw
          cases hgd : ao.g with
          | none =>
            rw [hgd] at hw
            exact awpO_one hgd (aop_mono (run s hw) fun r h' n' hk => ⟨r, rfl, hk.1, hk.2⟩)
          | some p =>
            obtain ⟨q, want⟩ := p
            rw [hgd] at hw
            simp only at hw
            have hq := hag q (rdA_g hgd)
            simp only [awpO, hgd]
            rw [← hq]
            split at hw
            · rename_i b hb
              simp only [hb]
              refine ⟨fun e => ?_, fun e => ?_⟩
              · have := hw.1 e
                rw [upd_self (by rw [hb, e])] at this
                rw [upd_self (by rw [← hq, hb, e])]
                exact aop_mono (run s this) fun r h' n' hk => ⟨r, rfl, hk.1, hk.2⟩
              · have := hw.2 e
                rw [upd_self (by rw [hb, e])] at this
                rw [upd_self (by rw [← hq, hb, e])]
                exact ⟨_, rfl, .inl (hext.refl _), this⟩
            · rename_i hb
              simp only [hb]
              exact ⟨_, rfl, .inl (hext.refl _), hw⟩
            · exact hw.elim
        · rintro s' h' n' a' w' hrel' ⟨r, rfl, he, hw'⟩
          exact hgo r h' n' a' w' hrel' he hw'

theorem compD_sound {t : DT} {id : Nat} {s : Env} {h : Heap} {n : Nat} {a : Act} {w : World} {Q : Exit → Act → World → Prop} (hd : compD P nt ops = some t) (hr : Rel base w0 w1 L1 n1 nt s h n a w) (hK : awpD P t s h n K)
    (hQ : ∀ s h n a w, Rel base w0 w1 L1 n1 nt s h n a w → K s h n → Q .normal a w) : (Code.region id ops true).wp P Q a w := by
  unfold compD at hd
  split at hd
  · rename_i hm
    simp only [Option.bind_eq_some_iff] at hd
    obtain ⟨aos, hos, hd⟩ := hd
    split at hd
    · rename_i hchk
      cases hd
      have hc := Chk.of hchk
      have hlen : aos.length = ops.size := by rw [(mapM_get hos).1]; simp
      refine wp_region_any hm ?_
      have hl0 : ∀ i, lsd (Array.replicate ops.size false) i = false := fun i => by simp [lsd, Array.getD]
      have I : DInv P base w0 w1 L1 n1 nt ops aos _ K (Array.replicate ops.size false) a { w with drawn := w.drawn + 1 } (aos.length + 1) [] s h n :=
        ⟨by simp [hlen], ⟨s, hr.drawn, fun t => .inl rfl⟩, (fun i hi => by rw [hl0] at hi; cases hi), (fun _ _ _ h => by cases h), (fun i hi => by rw [hl0] at hi; cases hi), (fun _ h => by cases h), (fun _ h => by cases h), (fun _ h => by cases h), hK⟩
      obtain ⟨f', dn', s', I2, hg2⟩ := I.greedy hc
      refine awpD_any hos hc hQ _ _ _ _ f' dn' s' h n I2 hg2 ?_
      unfold unl
      refine Nat.le_trans List.countP_le_length ?_
      simp [hlen]
    · cases hd
  · cases hd

end
end Go.Proofs.Ytlefdibgonpoaaa
