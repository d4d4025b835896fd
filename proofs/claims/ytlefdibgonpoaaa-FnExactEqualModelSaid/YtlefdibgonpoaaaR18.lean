/- append. -/
import Derived.Test.YtlefdibgonpoaaaR17
namespace Go.Proofs.Ytlefdibgonpoaaa
open Go Go.RowKit

section
variable {P : Program} {base : Nat} {w0 w : World} {L : Nat → Option Loc} {N : Nat} {F : Nat → List Nat} {E : List Nat} {h : Heap} {s : Nat → AV} {a : Act} {K : AV → Heap → Nat → Prop}

/-- The first m elements of a source are these cells. -/
def Src (P : Program) (w : World) (size m : Nat) (y : Value) (news : List Value) : Prop :=
  (Builtin.lenOf y).run P w = .ok m w ∧ (∀ w', w'.heap = w.heap → (Builtin.firstCells size m y).run P w' = .ok news.toArray w') ∧ news.length = m * size

theorem lenOf_run {y : Value} {m : Nat} (hy : ∃ A c, y = .slice A m c) (w : World) : (Builtin.lenOf y).run P w = .ok m w := by obtain ⟨A, c, rfl⟩ := hy; simp [Builtin.lenOf]

theorem src_of {size : Nat} {rows : List (List AV)} {A : Option Addr} {c : Nat} {news : List Value} (hl : news.length = rows.length * size)
    (h : rows = [] ∨ ∃ b o, A = some ⟨b, o, Option.none⟩ ∧ cellsAt w b o news) : ∀ w' : World, w'.heap = w.heap → (Builtin.firstCells size rows.length (.slice A rows.length c)).run P w' = .ok news.toArray w' := by
  intro w' hw
  rcases h with rfl | ⟨b, o, rfl, hc⟩
  · have : news = [] := List.eq_nil_of_length_eq_zero (by simpa using hl)
    subst this
    cases A with
    | none => simp [Builtin.firstCells]
    | some A => simp [Builtin.firstCells, loadCells, loadCellsFrom]
  · refine run_firstCells_some (P := P) w' size rows.length ⟨b, o, Option.none⟩ _ c news hl fun j v hj => ?_
    rw [addr_add, World.cell?_of_block (w := w) (by rw [hw])]
    exact hc j v hj

theorem run_app_nil {t ty e t2 : TypeId} {i : TypeInfo} {z y : Value} (ht : P.underlying t = some (.slice e)) (ht2 : ∃ e', P.underlying t2 = some (.slice e')) (hi : P.info? e = some i) (hz : i.zero = some z) {m : Nat} {news : List Value} (hy : ∃ A c, y = .slice A m c)
    (hf : ∀ w' : World, w'.heap = w.heap → (Builtin.firstCells i.size m y).run P w' = .ok news.toArray w') (hm : 0 < m) (hb : m * i.bytes ≤ LIM) (hm2 : m ≤ LIM) :
    (Builtin.append_ #[t, t2] ty #[.slice Option.none 0 0, y]).run P w =
      .ok (.slice (some ⟨w.heap.size, 0, Option.none⟩) m (grownCap w m 0 e)) (w.drew.alloc (.cells (news.toArray ++ Builtin.zeroCells z.cells (grownCap w m 0 e - m)) e)) := by
  obtain ⟨e', ht2⟩ := ht2
  have hLIM : LIM = 140737488355328 := rfl
  have hn : m ≠ 0 := by omega
  have h63' : ¬ (9223372036854775807 < (m : Int)) := by omega
  have h48' : ¬ (281474976710656 < Builtin.nextslicecap m 0 * i.bytes) := by have := growslice_fits (old := 0) hm (by omega : m * i.bytes ≤ 140737488355328); omega
  have hl := lenOf_run (P := P) hy w
  have hff := hf w.drew rfl
  simp [Builtin.append_, run_underlying ht, run_underlying ht2, sizeOf, typeInfo, zeroValue, hi, hz, hl, hn, h63', h48', Question.forced, run_firstCells_none, hff, newRow, grownCap]

theorem run_app_nil0 {t ty e t2 : TypeId} {i : TypeInfo} {y : Value} (ht : P.underlying t = some (.slice e)) (ht2 : ∃ e', P.underlying t2 = some (.slice e')) (hi : P.info? e = some i) {news : List Value} (hy : ∃ A c, y = .slice A 0 c)
    (hf : ∀ w' : World, w'.heap = w.heap → (Builtin.firstCells i.size 0 y).run P w' = .ok news.toArray w') :
    (Builtin.append_ #[t, t2] ty #[.slice Option.none 0 0, y]).run P w = .ok (.slice Option.none 0 0) w := by
  obtain ⟨e', ht2⟩ := ht2
  have hl := lenOf_run (P := P) hy w
  have hff := hf w rfl
  simp [Builtin.append_, run_underlying ht, run_underlying ht2, sizeOf, typeInfo, hi, hl, hff]

theorem run_app_room {t ty e t2 u : TypeId} {i : TypeInfo} {y : Value} (ht : P.underlying t = some (.slice e)) (ht2 : ∃ e', P.underlying t2 = some (.slice e')) (hi : P.info? e = some i) {m : Nat} {news : List Value} (hy : ∃ A c, y = .slice A m c)
    (hf : ∀ w' : World, w'.heap = w.heap → (Builtin.firstCells i.size m y).run P w' = .ok news.toArray w') (h1 : one news)
    {g sLen sCap : Nat} {cur : Array Value} (hg : w.heap[g]? = some (.cells cur u (0, 0))) (hroom : sLen + m ≤ sCap) (hfit : sLen * i.size + news.length ≤ cur.size) :
    (Builtin.append_ #[t, t2] ty #[.slice (some ⟨g, 0, Option.none⟩) sLen sCap, y]).run P w =
      .ok (.slice (some ⟨g, 0, Option.none⟩) (sLen + m) sCap) (w.setRow g (cur.toList.take (sLen * i.size) ++ news ++ cur.toList.drop (sLen * i.size + news.length)).toArray) := by
  obtain ⟨e', ht2⟩ := ht2
  have hl := lenOf_run (P := P) hy w
  have hff := hf w rfl
  have hst := run_storeCells_at P g (sLen * i.size) u news 0 cur w hg (by simpa using hfit) h1
  simp only [Nat.add_zero] at hst
  simp [Builtin.append_, run_underlying ht, run_underlying ht2, sizeOf, typeInfo, hi, hl, hroom, hff, Addr.add_lit, hst]

theorem run_app_grow {t ty e t2 : TypeId} {i : TypeInfo} {z y : Value} (ht : P.underlying t = some (.slice e)) (ht2 : ∃ e', P.underlying t2 = some (.slice e')) (hi : P.info? e = some i) (hz : i.zero = some z) {m : Nat} {news : List Value} (hy : ∃ A c, y = .slice A m c)
    (hf : ∀ w' : World, w'.heap = w.heap → (Builtin.firstCells i.size m y).run P w' = .ok news.toArray w')
    {b : Addr} {sLen sCap : Nat} {olds : List Value} (hlo : olds.length = sLen * i.size) (holds : ∀ j v, olds[j]? = some v → w.cell? (b.add j) = some v)
    (hg : sCap < sLen + m) (hb : (sLen + m) * i.bytes ≤ LIM) (hm2 : sLen + m ≤ LIM) :
    (Builtin.append_ #[t, t2] ty #[.slice (some b) sLen sCap, y]).run P w =
      .ok (.slice (some ⟨w.heap.size, 0, Option.none⟩) (sLen + m) (grownCap w (sLen + m) sCap e))
        (w.drew.alloc (.cells (olds.toArray ++ news.toArray ++ Builtin.zeroCells z.cells (grownCap w (sLen + m) sCap e - (sLen + m))) e)) := by
  obtain ⟨e', ht2⟩ := ht2
  have hLIM : LIM = 140737488355328 := rfl
  have hn : ¬ (sLen + m ≤ sCap) := by omega
  have h63' : ¬ (9223372036854775807 < ((sLen : Int) + (m : Int))) := by omega
  have h48' : ¬ (281474976710656 < Builtin.nextslicecap (sLen + m) sCap * i.bytes) := by have := growslice_fits hg (by omega : (sLen + m) * i.bytes ≤ 140737488355328); omega
  have hl := lenOf_run (P := P) hy w
  have hff := hf w.drew rfl
  have hfo := run_firstCells_some (P := P) w.drew i.size sLen b sLen sCap olds hlo (by simpa using holds)
  simp [Builtin.append_, run_underlying ht, run_underlying ht2, sizeOf, typeInfo, zeroValue, hi, hz, hl, hn, h63', h48', Question.forced, hff, hfo, newRow, grownCap]
  congr 2
  rw [← Array.append_assoc]
  congr 1
  simp

/-- An id dies; what its elements own is left over. -/
theorem HRel.kill (H : HRel base w0 w L N F E h) (id : Nat) {E' : List Nat} (hS : E'.Nodup) (hS2 : ∀ x ∈ E', x ∈ F id ∨ x ∈ E) :
    HRel base w0 w (upd L id Option.none) N (upd F id []) E' (upd h id Option.none) := by
  have e := Ext.kill w L N id
  have Fu : ∀ x, x ∈ F id ∨ x ∈ E → ¬ Own (upd L id Option.none) x ∧ base ≤ x ∧ x < w.heap.size := fun x hx => by
    have := hx.elim (H.fp id x) (H.ep x)
    exact ⟨fun h' => this.1 h'.upd_none, this.2⟩
  have Fc : ∀ i x, x ∈ upd F id [] i → i ≠ id ∧ x ∈ F i := fun i x hx => by
    simp only [upd] at hx
    split at hx
    · cases hx
    · exact ⟨by assumption, hx⟩
  refine ⟨H.below, H.bsz, ?_, ?_, ?_, ?_, ?_, ?_, ?_, fun b hb => Fu b (hS2 b hb), ?_, hS, ?_, ?_⟩
  · intro i hi; simp only [upd] at hi ⊢; split <;> rename_i hx <;> simp only [hx, if_true, if_false] at hi ⊢; exact H.dom i hi
  · intro i hi; simp only [upd] at hi ⊢; split <;> rename_i hx <;> simp only [hx, if_true, if_false] at hi ⊢; exact H.mod i hi
  · intro i l' hi; exact H.lt i l' (upd_none_some hi).2
  · intro i i' b sz cap sz' cap' hi hi'; exact H.inj i i' b sz cap sz' cap' (upd_none_some hi).2 (upd_none_some hi').2
  · intro b ho; exact H.lo b ho.upd_none
  · intro i B' l' hi hl'
    obtain ⟨hne, hl''⟩ := upd_none_some hl'
    rw [upd_other _ _ _ _ hne] at hi
    rw [upd_other _ _ _ _ hne]
    exact (H.blk i B' l' hi hl'').ext e fun _ _ _ _ => rfl
  · intro i b hb
    obtain ⟨_, hb⟩ := Fc i b hb
    have := H.fp i b hb
    exact ⟨fun h' => this.1 h'.upd_none, this.2⟩
  · intro i; simp only [upd]; split; exact List.nodup_nil; exact H.nd i
  · intro i j b h1 h2
    exact H.dj i j b (Fc i b h1).2 (Fc j b h2).2
  · intro i b h1 h2
    obtain ⟨hne, h1⟩ := Fc i b h1
    rcases hS2 b h2 with h2 | h2
    · exact hne (H.dj i id b h1 h2)
    · exact H.de i b h1 h2

theorem zeroCells_len (z : Array Value) (n : Nat) : (Builtin.zeroCells z n).toList.length = n * z.size := by simp [Builtin.zeroCells]

/-- An append to nothing. -/
theorem app_new {t ty e t2 : TypeId} {i : TypeInfo} {z : Value} (ht : P.underlying t = some (.slice e)) (ht2 : ∃ e', P.underlying t2 = some (.slice e')) (hi : P.info? e = some i) (hz : i.zero = some z) (hzs : z.cells.size = i.size) (hpos : 0 < i.size) (hby : 0 < i.bytes)
    {S : List Nat} (H : HRel base w0 w L N F S h) {rows : List (List AV)} {A : Option Addr} {c : Nat} {news : List Value} (hr : VRr w L 0 rows news S) (h1 : one news) (hsz : ∀ r ∈ rows, r.length = i.size)
    (hc : rows = [] ∨ ∃ b o, A = some ⟨b, o, Option.none⟩ ∧ cellsAt w b o news) (hb : rows.length * i.bytes ≤ LIM) :
    ∃ v w' L' F', (Builtin.append_ #[t, t2] ty #[.slice Option.none 0 0, .slice A rows.length c]).run P w = .ok v w' ∧
      HRel base w0 w' L' (N + 1) F' [] (upd h N (some ⟨false, i.size, rows⟩)) ∧ VR w' L' (N + 1) (.ref N 0 rows.length) v [] ∧ Ext w L N w' L' (N + 1) := by
  have hnl := VRr_length hsz hr
  have hf := src_of (P := P) (size := i.size) (c := c) hnl hc
  have hlim : rows.length ≤ LIM := Nat.le_trans (Nat.le_mul_of_pos_right _ hby) hb
  have hLIM : LIM = 140737488355328 := rfl
  by_cases hm : rows.length = 0
  · have hrows : rows = [] := List.eq_nil_of_length_eq_zero hm
    subst hrows
    simp only [VRr] at hr
    obtain ⟨rfl, rfl⟩ := hr
    have run := run_app_nil0 (P := P) (w := w) (ty := ty) ht ht2 hi (y := .slice A 0 c) ⟨A, c, rfl⟩ hf
    obtain ⟨m1, m2⟩ := H.chg (w' := w) (N' := N + 1) (E' := []) N N ⟨false, i.size, []⟩ .none [] (by omega) (by omega) (.inl rfl) (fun hlt => absurd hlt (Nat.lt_irrefl _)) (Below.refl _ _) (fun _ _ _ => rfl) (fun _ _ _ he => by cases he)
      (fun L' e hL' => ⟨rfl, rfl⟩) (by simp) (by simp)
    have hu : upd (upd h N Option.none) N (some ⟨false, i.size, []⟩) = upd h N (some ⟨false, i.size, []⟩) := by funext j; simp only [upd]; split <;> rfl
    rw [hu] at m1
    refine ⟨_, w, _, _, run, m1, ?_, m2⟩
    simp only [VR]
    refine ⟨⟨by omega, rfl, ?_⟩, trivial⟩
    intro l hl; rw [upd_same] at hl; cases hl
    exact ⟨Nat.zero_le _, rfl, rfl, rfl⟩
  · have run := run_app_nil (P := P) (w := w) (ty := ty) ht ht2 hi hz (y := .slice A rows.length c) ⟨A, c, rfl⟩ hf (by omega) hb hlim
    have hge := grownCap_ge w rows.length 0 e
    have hcm := grownCap_le_maxLen w rows.length 0 e (by simp only [maxLen]; omega)
    obtain ⟨Hd, ed⟩ := H.drew
    obtain ⟨L2, F2, m1, m2, m3⟩ := Hd.newRows (t := e) (rows := rows) (sz := i.size) (cap := grownCap w rows.length 0 e) (vals := news) (rest := (Builtin.zeroCells z.cells (grownCap w rows.length 0 e - rows.length)).toList)
      (VRr_ext ed.zero _ _ _ hr) h1 hpos hsz hlim hge hcm (by
        rw [List.length_append, hnl, zeroCells_len, hzs, ← Nat.add_mul]; congr 1; omega)
    have harr : (news ++ (Builtin.zeroCells z.cells (grownCap w rows.length 0 e - rows.length)).toList).toArray = news.toArray ++ Builtin.zeroCells z.cells (grownCap w rows.length 0 e - rows.length) := by
      apply Array.ext'; simp
    rw [harr] at m1 m2 m3
    exact ⟨_, _, L2, F2, run, m1, m2, ed.trans m3⟩

theorem ok_app {t t2 ty e : TypeId} {i : TypeInfo} {z : Value} {x y : Operand} {x' y' : Opd} (H : HRel base w0 w L N F [] h) (hs : SRel w L N s a.tmps) (hx : ∃ t, compX P t x = some x') (hy : ∃ t, compX P t y = some y')
    (ht : P.underlying t = some (.slice e)) (ht2 : ∃ e', P.underlying t2 = some (.slice e')) (hi : P.info? e = some i) (hz : i.zero = some z) (hzs : z.cells.size = i.size) (hpos : 0 < i.size) (hby : 0 < i.bytes)
    (hK : aop P s h N K (.app i.bytes i.size x' y')) : Gives P (do pure (.value (← Builtin.append_ #[t, t2] ty #[a.eval x, a.eval y]))) w (Post base w0 w L N K) := by
  obtain ⟨t1, hx⟩ := hx
  obtain ⟨t3, hy⟩ := hy
  have hv := compX_sound hx hs
  have hu := compX_sound hy hs
  have hLIM : LIM = 140737488355328 := rfl
  simp only [aop] at hK
  split at hK
  · rename_i sz0 hev
    rw [hev] at hv
    simp only [VR] at hv
    unfold onO at hK
    split at hK
    · rename_i p hp
      obtain ⟨sz, rows, h'⟩ := p
      obtain ⟨h1, h2, hK⟩ := hK
      simp only at h1 h2 hK
      subst h1
      obtain ⟨F', S, A, c, news, g1, g2, g3, g4, g5, g6, g7⟩ := srcRows_sound H hu hp
      obtain ⟨v, w', L', F'', r1, r2, r3, r4⟩ := app_new (P := P) (ty := ty) ht ht2 hi hz hzs hpos hby g1 g3 g4 g6 g7 h2
      refine .of_value (v := v) (w' := w') ?_ ⟨_, _, _, _, _, r2, r4, r3, hK⟩
      rw [hv.1, g2, Sem.run_bind, r1]; rfl
    · exact hK.elim
  · rename_i id off len hev
    rw [hev] at hv
    obtain ⟨rfl, hK⟩ := hK
    unfold onO at hK
    split at hK
    · rename_i p hp
      split at hK
      · rename_i B hB
        obtain ⟨hbox, hBsz, hlen, h1, hne, h2, hK⟩ := hK
        obtain ⟨sz, rows, h'⟩ := p
        simp only at h1 h2 hK
        subst h1
        obtain ⟨F', S, A, c, news, g1, g2, g3, g4, g5, g6, g7⟩ := srcRows_sound H hu hp
        have hB' : h' id = some B := by
          have hp' := hp
          unfold srcRows at hp'
          split at hp'
          · simp only [Option.some.injEq, Prod.mk.injEq] at hp'; rw [← hp'.2.2]; exact hB
          · simp only [Option.some.injEq, Prod.mk.injEq] at hp'; rw [← hp'.2.2]; exact hB
          · rename_i id2 o2 l2 hy2
            split at hp'
            · split at hp'
              · simp only [Option.some.injEq, Prod.mk.injEq] at hp'
                rw [← hp'.2.2, upd_other _ _ _ _ (by rw [hy2] at hne; exact fun h => hne h.symm)]; exact hB
              · cases hp'
            · cases hp'
          · cases hp'
        have hnl := VRr_length g6 g3
        have hf := src_of (P := P) (size := i.size) (c := c) hnl g7
        have hlim : len + rows.length ≤ LIM := Nat.le_trans (Nat.le_mul_of_pos_right _ hby) h2
        cases hl : L id with
        | none => rw [H.mod id hl] at hB; cases hB
        | some l =>
          have hid := H.lt id l hl
          simp only [VR] at hv
          have hpp := hv.1.2.2 l hl
          have hbr := g1.blk id B l hB' hl
          have hidN : N ≠ id := by omega
          cases l with
          | none =>
            obtain ⟨hrows, hFe⟩ := hbr
            obtain ⟨_, _, rfl, he⟩ := hpp
            have Hk := g1.kill id (E' := S) g1.ne (fun x hx => .inr hx)
            have ek := Ext.kill w L N id
            obtain ⟨v, w', L', F'', r1, r2, r3, r4⟩ := app_new (P := P) (ty := ty) (t2 := t2) ht ht2 hi hz hzs hpos hby Hk (VRr_ext ek.zero _ _ _ g3) g4 g6 g7 (by rw [Nat.zero_add] at h2; exact h2)
            refine .of_value (v := v) (w' := w') ?_ ⟨_, _, _, _, _, r2, ek.trans r4, r3, ?_⟩
            · rw [he, g2, Sem.run_bind, r1]; rfl
            · simpa using hK
          | «at» b sz cap =>
            obtain ⟨rfl, h0, cur, u, vals, rest, q1, q2, q3, q4, q5, q6, q7, q8, q9, q10⟩ := hbr
            obtain ⟨_, A', he, hA, hcap⟩ := hpp
            have hA := hA (.inr rfl)
            subst hA
            simp only [Nat.zero_mul, Nat.sub_zero, Nat.zero_add] at he hcap
            simp only [hbox, if_false, Bool.false_eq_true] at q10
            obtain ⟨v1, v2, S1, S2, rfl, hFS, k1, k2⟩ := VRr_take len q10
            have hv1 : v1.length = len * B.sz := by
              rw [VRr_length (fun r hr => q8 r (List.mem_of_mem_take hr)) k1, List.length_take, Nat.min_eq_left (by omega)]
            have hrowsl : (B.rows.take len ++ rows).length = len + rows.length := by rw [List.length_append, List.length_take, Nat.min_eq_left hlen]
            have hrsz : ∀ r ∈ B.rows.take len ++ rows, r.length = i.size := by
              intro r hr
              rcases List.mem_append.1 hr with hr | hr
              · rw [q8 r (List.mem_of_mem_take hr), hBsz]
              · exact g6 r hr
            have hone : one (v1 ++ news) := by
              intro v hv'
              rcases List.mem_append.1 hv' with hv' | hv'
              · exact q9 v (by simp [hv'])
              · exact g4 v hv'
            have hnd : (S1 ++ S).Nodup := by
              have n1 := g1.nd id; rw [hFS] at n1
              refine List.nodup_append.2 ⟨(List.nodup_append.1 n1).1, g1.ne, ?_⟩
              rintro x hx y hy rfl
              exact g1.de id x (by rw [hFS]; simp [hx]) hy
            have hnd2 : ∀ x ∈ S1 ++ S, x ∈ F' id ∨ x ∈ S := by
              intro x hx
              rcases List.mem_append.1 hx with hx | hx
              · left; rw [hFS]; simp [hx]
              · right; exact hx
            by_cases hroom : len + rows.length ≤ cap
            · have hcsz : cur.size = cap * i.size := by rw [q3, hBsz]
              have hfit : len * i.size + news.length ≤ cur.size := by rw [hnl, hcsz, ← Nat.add_mul]; exact Nat.mul_le_mul_right _ hroom
              have run := run_app_room (P := P) (w := w) (ty := ty) (t2 := t2) (u := u) ht ht2 hi (y := .slice A rows.length c) ⟨A, c, rfl⟩ hf g4 q1 hroom hfit
              have htake : cur.toList.take (len * i.size) ++ news ++ cur.toList.drop (len * i.size + news.length) = (v1 ++ news) ++ cur.toList.drop (len * i.size + news.length) := by
                congr 2
                rw [q2, ← hBsz, ← hv1, List.append_assoc, List.take_left]
              rw [htake] at run
              obtain ⟨m1, m2⟩ := g1.chg (w' := w.setRow b ((v1 ++ news) ++ cur.toList.drop (len * i.size + news.length)).toArray) (N' := N + 1) (E' := []) N id ⟨false, i.size, B.rows.take len ++ rows⟩ (.at b i.size cap) (S1 ++ S) (by omega) (by omega) (.inr (Nat.le_refl _)) (fun hlt => absurd hlt (Nat.lt_irrefl _))
                ⟨rfl, rfl, rfl, by simp, fun k hk => setRow_other w b k _ (fun he => by have := g1.lo b ⟨id, _, cap, hl⟩; omega)⟩
                (fun b' hb' hne => setRow_other w b b' _ (fun he => hne _ cap (he ▸ hl)))
                (fun b' sz' cap' he => by cases he; exact ⟨g1.lo b ⟨id, _, cap, hl⟩, by rw [size_setRow]; exact lt_of_heap q1, .inl ⟨_, cap, hl⟩⟩)
                (fun L' e hL' => ⟨rfl, by simp, _, u, v1 ++ news, cur.toList.drop (len * i.size + news.length), setRow_heap w b cur _ u (0, 0) q1, by simp, by
                    have : ((v1 ++ news) ++ cur.toList.drop (len * i.size + news.length)).length = cur.size := by
                      simp only [List.length_append, List.length_drop, hv1, hBsz, Array.length_toList]; omega
                    rw [List.size_toArray, this, hcsz], hpos, q5, by rw [hrowsl]; exact hroom, by rw [hrowsl]; exact hlim, hrsz, hone, by
                    simp only [Bool.false_eq_true, if_false]
                    rw [VRr_iff, List.flatten_append, VRl_append]
                    exact ⟨v1, news, S1, S, rfl, rfl, VRr_iff.1 (VRr_ext e.zero _ _ _ k1), VRr_iff.1 (VRr_ext e.zero _ _ _ g3)⟩⟩)
                (by simpa using hnd) (fun x hx => hnd2 x (by simpa using hx))
              refine .of_value (v := .slice (some ⟨b, 0, Option.none⟩) (len + rows.length) cap) (w' := _) ?_ ⟨_, _, _, _, _, m1, m2, ?_, hK⟩
              · rw [he, g2, Sem.run_bind, run]; rfl
              · simp only [VR]
                refine ⟨⟨by omega, rfl, ?_⟩, trivial⟩
                intro l hl'; rw [upd_same] at hl'; cases hl'
                exact ⟨hlim, some ⟨b, 0, Option.none⟩, by simp, by simp, by omega⟩
            · have hcells : cellsAt w b 0 v1 := by
                have := cells_of_row (w := w) (pre := []) (vals := v1) (rest := v2 ++ rest) q1 (by rw [q2]; simp)
                simpa using this
              have run := run_app_grow (P := P) (w := w) (ty := ty) (t2 := t2) ht ht2 hi hz (y := .slice A rows.length c) ⟨A, c, rfl⟩ hf (b := ⟨b, 0, Option.none⟩) (sLen := len) (sCap := cap) (olds := v1) (by rw [hv1, hBsz]) (fun j v hj => by rw [addr_add]; exact hcells j v hj) (by omega) h2 hlim
              have hge := grownCap_ge w (len + rows.length) cap e
              have hcm := grownCap_le_maxLen w (len + rows.length) cap e (by simp only [maxLen]; omega)
              have Hk := g1.kill id (E' := S1 ++ S) hnd hnd2
              have ek := Ext.kill w L N id
              obtain ⟨Hd, ed⟩ := Hk.drew
              obtain ⟨L2, F2, m1, m2, m3⟩ := Hd.newRows (t := e) (rows := B.rows.take len ++ rows) (sz := i.size) (cap := grownCap w (len + rows.length) cap e) (vals := v1 ++ news) (rest := (Builtin.zeroCells z.cells (grownCap w (len + rows.length) cap e - (len + rows.length))).toList)
                (by
                  rw [VRr_iff, List.flatten_append, VRl_append]
                  exact ⟨v1, news, S1, S, rfl, rfl, VRr_iff.1 (VRr_ext (ek.trans ed).zero _ _ _ k1), VRr_iff.1 (VRr_ext (ek.trans ed).zero _ _ _ g3)⟩) hone hpos hrsz (by rw [hrowsl]; exact hlim) (by rw [hrowsl]; exact hge) hcm (by
                  rw [List.length_append, List.length_append, hv1, hnl, zeroCells_len, hzs, hBsz, ← Nat.add_mul, ← Nat.add_mul]; congr 1; omega)
              have harr : (v1 ++ news ++ (Builtin.zeroCells z.cells (grownCap w (len + rows.length) cap e - (len + rows.length))).toList).toArray = v1.toArray ++ news.toArray ++ Builtin.zeroCells z.cells (grownCap w (len + rows.length) cap e - (len + rows.length)) := by
                apply Array.ext'; simp
              rw [harr] at m1 m2 m3
              rw [hrowsl] at m2
              refine .of_value (v := .slice (some ⟨w.heap.size, 0, Option.none⟩) (len + rows.length) (grownCap w (len + rows.length) cap e)) (w' := _) ?_ ⟨_, _, _, _, _, m1, (ek.trans ed).trans m3, m2, hK⟩
              rw [he, g2, Sem.run_bind, run]; rfl
      · exact hK.elim
    · exact hK.elim
  · exact hK.elim
end

end Go.Proofs.Ytlefdibgonpoaaa
