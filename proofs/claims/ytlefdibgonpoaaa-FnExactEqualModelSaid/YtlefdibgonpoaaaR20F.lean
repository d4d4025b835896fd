/- Operations whose order is drawn: the tree of orders that is walked, and that it serves. -/
import Derived.Test.YtlefdibgonpoaaaR20D
namespace Go.Proofs.Ytlefdibgonpoaaa
open Go Go.RowKit

inductive DT where
  | fin
  | stuck
  | both (a b : DT)
  | op (o : AO) (t : DT)

def awpD (P : Program) : DT → Env → Heap → Nat → (Env → Heap → Nat → Prop) → Prop
  | .fin, s, h, n, K => K s h n
  | .stuck, _, _, _, _ => False
  | .both a b, s, h, n, K => awpD P a s h n K ∧ awpD P b s h n K
  | .op o t, s, h, n, K => match o.g with
    | Option.none => aopD P s h n (fun r h' n' => awpD P t (setO s o.d r) h' n' K) o.op
    | some (j, want) => match s j with
      | .bool b => (b = want → aopD P (upd s j (.bool want)) h n (fun r h' n' => awpD P t (setO (upd s j (.bool want)) o.d r) h' n' K) o.op) ∧
          (b = !want → awpD P t (setO (upd s j (.bool (!want))) o.d (.tup [])) h n K)
      | .tup [] => awpD P t (setO s o.d (.tup [])) h n K
      | _ => False

def memN (n : Nat) : List Nat → Bool
  | [] => false
  | m :: l => Nat.beq n m || memN n l

theorem memN_iff {n : Nat} {l : List Nat} : memN n l = true ↔ n ∈ l := by
  induction l with
  | nil => simp [memN]
  | cons m l ih => simp [memN, ih]

def rdA (o : AO) : List Nat := rdO o.op ++ (match o.g with | some (q, _) => [q] | Option.none => [])

def preds (ops : Array Oper) (i : Nat) : List Nat := match ops[i]? with
  | some o => (o.after.toList.filter (Region.binds .any)).map (·.on)
  | Option.none => []

def dOf (aos : List AO) (i : Nat) : Option Nat := (aos[i]?).bind (·.d)
def rdI (aos : List AO) (i : Nat) : List Nat := match aos[i]? with | some o => rdA o | Option.none => []
def isD (aos : List AO) (j d : Nat) : Bool := match dOf aos j with | some e => Nat.beq e d | Option.none => false

/-- May it be taken as early as can be? -/
def isR (aos : List AO) (pre : Nat → List Nat) (i : Nat) : Bool := match aos[i]? with
  | some o => pureO o.op && (match o.d with
    | some d => (List.range aos.length).all fun j => if Nat.beq j i then !(memN d (rdI aos j)) else !(isD aos j d) && (!(memN d (rdI aos j)) || memN i (pre j))
    | Option.none => false)
  | Option.none => false

def chkD (aos : List AO) (pre : Nat → List Nat) (rs : List Nat) : Bool := (List.range aos.length).all fun i =>
  (pre i).all (fun p => Nat.blt p i) && (memN i rs == isR aos pre i) && (memN i rs || (match dOf aos i with
    | some d => (List.range aos.length).all fun j => Nat.beq j i || !(memN d (rdI aos j)) || memN i (pre j) || memN j (pre i)
    | Option.none => true))

def heapI (aos : List AO) (j : Nat) : Bool := match aos[j]? with | some o => heapO o.op | Option.none => true

def rdyD (N : Nat) (pre : Nat → List Nat) (dn : List Nat) : List Nat := (List.range N).filter fun i => !(memN i dn) && (pre i).all fun p => memN p dn

def bothAll : List DT → DT
  | [] => .fin
  | [t] => t
  | t :: ts => .both t (bothAll ts)

def build (aos : List AO) (pre : Nat → List Nat) (rs : List Nat) : Nat → List Nat → DT
  | 0, _ => .stuck
  | f + 1, dn => match (rdyD aos.length pre dn).find? fun i => memN i rs with
    | some i => match aos[i]? with
      | some o => .op o (build aos pre rs f (i :: dn))
      | Option.none => .stuck
    | Option.none => bothAll ((rdyD aos.length pre dn).map fun i => match aos[i]? with
      | some o => if softO o.op || dn.all (fun j => !(memN j rs) || memN j (pre i) || !(heapI aos j)) then .op o (build aos pre rs f (i :: dn)) else .stuck
      | Option.none => .stuck)

def compD (P : Program) (nt : Nat) (ops : Array Oper) : Option DT :=
  if P.follows .mixedOrders then (ops.toList.mapM (compO P nt ops)).bind fun aos =>
    let pre := preds ops
    let rs := (List.range aos.length).filter (isR aos pre)
    if chkD aos pre rs then some (build aos pre rs (aos.length + 1) []) else Option.none
  else Option.none

theorem bothAll_mem {P : Program} {s : Env} {h : Heap} {n : Nat} {K : Env → Heap → Nat → Prop} : ∀ {ts : List DT} {t : DT}, t ∈ ts → awpD P (bothAll ts) s h n K → awpD P t s h n K
  | [], _, h, _ => by cases h
  | [t], _, h, hk => by simp at h; subst h; exact hk
  | t :: u :: ts, x, h, hk => by
    simp only [bothAll, awpD] at hk
    rcases List.mem_cons.1 h with rfl | h
    · exact hk.1
    · exact bothAll_mem h hk.2

/-- What is known of an operation that the walk has done and the machine has not. -/
def PendOK (P : Program) (o : AO) (s : Env) (h : Heap) : Prop := ∃ d, o.d = some d ∧ match o.g with
  | Option.none => Fix P o.op s h (s d)
  | some (q, want) => (s q = .bool want ∧ Fix P o.op s h (s d)) ∨ ((s q = .bool (!want) ∨ s q = .tup []) ∧ s d = .tup [])

theorem rdA_op {o : AO} {t : Nat} (h : t ∈ rdO o.op) : t ∈ rdA o := List.mem_append_left _ h
theorem rdA_g {o : AO} {q : Nat} {w : Bool} (h : o.g = some (q, w)) : q ∈ rdA o := by simp [rdA, h]

theorem PendOK.mono {P : Program} {o : AO} {s s' : Env} {h h' : Heap} (hp : PendOK P o s h) (ha : agree s s' (rdA o)) (hd : ∀ d, o.d = some d → s d = s' d) (he : heapO o.op = true → hext h h') : PendOK P o s' h' := by
  obtain ⟨d, h1, h2⟩ := hp
  refine ⟨d, h1, ?_⟩
  have ho : agree s s' (rdO o.op) := fun t ht => ha t (rdA_op ht)
  rw [← hd d h1]
  cases hg : o.g with
  | none => rw [hg] at h2; exact Fix.mono h2 ho he
  | some p =>
    obtain ⟨q, want⟩ := p
    rw [hg] at h2
    simp only at h2 ⊢
    rw [← ha q (rdA_g hg)]
    exact h2.imp (fun h => ⟨h.1, h.2.mono ho he⟩) id

theorem upd_self {s : Env} {q : Nat} {v : AV} (h : s q = v) : upd s q v = s := by
  funext i; simp only [upd]; split
  · rename_i e; rw [e, h]
  · rfl

section
variable {P : Program} {base : Nat} {w0 w1 : World} {L1 : Nat → Option Loc} {n1 nt : Nat}

theorem Rel.mask {s : Env} {h : Heap} {n : Nat} {a : Act} {w : World} {d : Nat} (hr : Rel base w0 w1 L1 n1 nt s h n a w) : Rel base w0 w1 L1 n1 nt (upd s d .undef) h n a w := by
  obtain ⟨h1, h2, L, F, H, hs, he⟩ := hr
  refine ⟨h1, h2, L, F, H, fun i => ?_, he⟩
  simp only [upd]; split
  · simp only [VR]
  · exact hs i

theorem Rel.drawn {s : Env} {h : Heap} {n k : Nat} {a : Act} {w : World} (hr : Rel base w0 w1 L1 n1 nt s h n a w) : Rel base w0 w1 L1 n1 nt s h n a { w with drawn := k } := by
  obtain ⟨h1, h2, L, F, H, hs, he⟩ := hr
  have e : Ext w L n { w with drawn := k } L n := ⟨Nat.le_refl _, fun _ _ _ h => h, Nat.le_refl _, fun _ _ h => ⟨rfl, h⟩⟩
  refine ⟨h1, h2, L, F, ⟨⟨H.below.os, H.below.tape, H.below.output, H.below.size, H.below.block⟩, H.bsz, H.dom, H.mod, H.lt, H.inj, H.lo, fun id B l hB hl => (H.blk id B l hB hl).ext e (fun _ _ _ _ => rfl), H.fp, H.ep, H.nd, H.ne, H.dj, H.de⟩, hs.ext e, he.trans e⟩

/-- One operation, whatever is to follow. -/
theorem oneOp (ops : Array Oper) {o : Oper} {ao : AO} (hao : compO P nt ops o = some ao) {s : Env} {h : Heap} {n : Nat} {K : Env → Heap → Nat → Prop} {a : Act} {w : World} {Q : Exit → Act → World → Prop} {next : Act → World → Prop}
    (hr : Rel base w0 w1 L1 n1 nt s h n a w) (hK : awpO P [ao] s h n K) (hQ : ∀ s h n a w, Rel base w0 w1 L1 n1 nt s h n a w → K s h n → next a w) :
    if Region.wanted o (yielded ops a.tmps) then o.wp P a w next Q ∨ (o.asks P a w ∧ LetsOut Q) else next (a.put o.dst undef) w := by
  obtain ⟨hdf, hsz, L, F, H, hs, he⟩ := hr
  -- one operation that is carried out
  have step : ∀ (s' : Env) (aop' : AOp), compOp P o = some aop' → SRel w L n s' a.tmps → (∀ i, o.dst = some i → i < nt) →
      aop P s' h n (fun r h' n' => K (setO s' o.dst r) h' n') aop' → o.wp P a w next Q := fun s' aop' hco hs' hd hK' => by
    refine (compOp_sound hco H hs' hK').wp fun v w' hp => ?_
    obtain ⟨r, L', N', F', h', g1, g2, g3, g4⟩ := hp
    exact hQ _ _ _ _ _ ⟨by rw [put_defers, hdf], by rw [put_size, hsz], L', F', g1, (hs'.ext g2).put g3 (fun i hi => by rw [hsz]; exact hd i hi), he.trans g2⟩ g4
  have skip : ∀ (s' : Env), SRel w L n s' a.tmps → (∀ i, o.dst = some i → i < nt) → K (setO s' o.dst (.tup [])) h n → next (a.put o.dst undef) w := fun s' hs' hd hK' =>
    hQ _ _ _ _ _ ⟨by rw [put_defers, hdf], by rw [put_size, hsz], L, F, H, hs'.put (by simp [VR, VRl, undef]) (fun i hi => by rw [hsz]; exact hd i hi), he⟩ hK'
  have key : ∃ aop', compOp P o = some aop' ∧ ao.d = o.dst ∧ ao.op = aop' ∧ (∀ i, o.dst = some i → i < nt) ∧
      ((o.guard = Option.none ∧ ao.g = Option.none) ∨ ∃ j want q, o.guard = some (j, want) ∧ (ops[j]?).bind (·.dst) = some q ∧ q < nt ∧ ao.g = some (q, want)) := by
    unfold compO at hao
    split at hao
    · rename_i d hd
      split at hao
      · rename_i hlt
        split at hao
        · rename_i hg
          simp only [Option.map_eq_some_iff] at hao
          obtain ⟨x, hx, rfl⟩ := hao
          exact ⟨x, hx, hd.symm, rfl, (fun i hi => by rw [hd] at hi; cases hi; exact hlt), .inl ⟨hg, rfl⟩⟩
        · rename_i j want hg
          split at hao
          · rename_i q hq
            split at hao
            · rename_i hqlt
              simp only [Option.map_eq_some_iff] at hao
              obtain ⟨x, hx, rfl⟩ := hao
              exact ⟨x, hx, hd.symm, rfl, (fun i hi => by rw [hd] at hi; cases hi; exact hlt), .inr ⟨j, want, q, hg, hq, hqlt, rfl⟩⟩
            · cases hao
          · cases hao
      · cases hao
    · rename_i hd
      split at hao
      · rename_i hg
        simp only [Option.map_eq_some_iff] at hao
        obtain ⟨x, hx, rfl⟩ := hao
        exact ⟨x, hx, hd.symm, rfl, (fun i hi => by rw [hd] at hi; cases hi), .inl ⟨hg, rfl⟩⟩
      · rename_i j want hg
        split at hao
        · rename_i q hq
          split at hao
          · rename_i hqlt
            simp only [Option.map_eq_some_iff] at hao
            obtain ⟨x, hx, rfl⟩ := hao
            exact ⟨x, hx, hd.symm, rfl, (fun i hi => by rw [hd] at hi; cases hi), .inr ⟨j, want, q, hg, hq, hqlt, rfl⟩⟩
          · cases hao
        · cases hao
  obtain ⟨aop', hco, hd1, hop, hdlt, hg⟩ := key
  simp only [awpO] at hK
  rcases hg with ⟨hg, hg'⟩ | ⟨j, want, q, hg, hq, hqlt, hg'⟩
  · rw [hg'] at hK
    simp only [hd1, hop] at hK
    rw [if_pos (by simp [Region.wanted, hg])]
    exact .inl (step s aop' hco hs hdlt hK)
  · rw [hg'] at hK
    simp only [hd1, hop] at hK
    have hyield : ∀ v, a.tmps.getD q undef = v → yielded ops a.tmps j = match v with | .bool b => some b | _ => Option.none := fun v hv => by
      have hlt : q < a.tmps.size := by rw [hsz]; exact hqlt
      have hv' : a.tmps[q]? = some v := by rw [← hv]; simp [Array.getD, hlt]
      have : ((ops[j]?).bind (·.dst)).bind (a.tmps[·]?) = some v := by rw [hq]; exact hv'
      unfold yielded
      rw [this]
      cases v <;> rfl
    split at hK
    · rename_i b hb
      have hv := hs q
      rw [hb] at hv
      simp only [VR] at hv
      have hy := hyield _ hv.1
      simp only at hy
      have hwant : Region.wanted o (yielded ops a.tmps) = (b == want) := by simp [Region.wanted, hg, hy]
      rw [hwant]
      by_cases hbw : b = want
      · rw [if_pos (by simp [hbw])]
        exact .inl (step _ aop' hco (hs.bool hb hbw) hdlt (hK.1 hbw))
      · rw [if_neg (by simp [hbw])]
        have hbn : b = !want := by cases b <;> cases want <;> simp at hbw ⊢
        exact skip _ (hs.bool hb hbn) hdlt (hK.2 hbn)
    · rename_i hb
      have hv := hs q
      rw [hb] at hv
      simp only [VR, VRl] at hv
      obtain ⟨vs, hv, hvs, _⟩ := hv
      have hy := hyield _ hv
      simp only at hy
      rw [if_neg (by simp [Region.wanted, hg, hy])]
      exact skip _ hs hdlt hK
    · exact hK.elim

end
end Go.Proofs.Ytlefdibgonpoaaa
