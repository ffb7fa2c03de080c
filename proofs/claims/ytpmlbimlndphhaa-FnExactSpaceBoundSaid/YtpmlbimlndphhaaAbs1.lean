/- An abstract machine for the model's own code, and the proof that what it answers the program answers (part 1): no condition. -/
import Derived.Test.YtpmlbimlndphhaaAbs0
import Derived.Calls
import Derived.Laws.StructEq
import Derived.Laws.Tables
set_option linter.unusedVariables false
set_option linter.unusedSimpArgs false
/- Soundness 11: one cell is written. -/
namespace Go.Abs

theorem Kr_setCell {w : World} {wr : Wrs} {ro : Bool} {b q : Nat} {ad : Addr} {u : Value} (h : Kr w wr ro b q) : Kr (w.setCell ad u) wr ro b q := by
  cases ro
  · exact ⟨h.1, by rw [World.frozen?_setCell]; exact h.2⟩
  · exact h
theorem TR.setK {w : World} {wr : Wrs} {own ro : Bool} {S : BS} {v : Value} {a : AV} {ad : Addr} {u : Value} (h : TR (w.setCell ad u) own (Kr w wr ro) S v a) : TR (w.setCell ad u) own (Kr (w.setCell ad u) wr ro) S v a :=
  h.mono (fun _ h => h) (fun _ _ _ hk => Kr_setCell hk)

/-- the heap in which root r's tree is exchanged at a place -/
def upd (h : Heap) (r : Nat) (x : Root) (p : Path) (new : Rows) : Heap := put h r (some { x with rows := updR p x.rows new })
theorem modH_inv {h : Heap} {r : Nat} {p : Path} {f : Rows → (Rows → R) → R} {k : Heap → R} {res : Res} (hh : modH h r p f k = some res) :
    ∃ x sz rows, h[r]?.join = some x ∧ resR p x.sz x.rows = some (sz, rows) ∧ f rows (fun new => k (upd h r x p new)) = some res := by
  obtain ⟨x, hx, hh⟩ := getH_inv hh
  obtain ⟨ro, virt, box, sz, rows⟩ := x
  simp only [modT_eq] at hh
  obtain ⟨sz', rows', h1, h2⟩ := modR_inv hh
  refine ⟨⟨ro, virt, box, sz, rows⟩, if p = [] then sz else sz', rows', by simp [hx], ?_, ?_⟩
  · cases p with
    | nil => simp only [resR, Option.some.injEq, Prod.mk.injEq] at h1 ⊢; exact ⟨by simp, h1.2⟩
    | cons a p => simpa [resR] using h1
  · have e : ∀ (l : Heap) (n : Nat) (v : Option Root) (k : Heap → R), setH l n v k = k (put l n v) := by
      intro l n v k
      induction n generalizing l k with
      | zero => cases l <;> rfl
      | succ n ih => cases l with
        | nil => simp only [setH, put, ih]
        | cons a l => simp only [setH, put, ih]
    simp only [e] at h2
    exact h2

theorem cellSet {cs : Array Value} {q q' : Nat} {u : Value} (h : q' ≠ q) : (cs.setIfInBounds q u).getD q' default = cs.getD q' default := by
  simp only [Array.getD_eq_getD_getElem?]
  rw [Array.getElem?_setIfInBounds_ne (Ne.symm h)]
theorem cellSet_self {cs : Array Value} {q : Nat} {u : Value} (h : q < cs.size) : (cs.setIfInBounds q u).getD q default = u := by
  simp [Array.getD_eq_getD_getElem?, h]
/-- a cell behind an exchange is the new one, or an old one -/
theorem set_cases {rows : Rows} {i j : Nat} {row : List AV} {a : AV} (hi : rows[i]? = some row) (hj : j < row.length) {i' j' : Nat} {row' : List AV} {a' : AV}
    (hr : (rows.set i (row.set j a))[i']? = some row') (ha : row'[j']? = some a') : (i' = i ∧ j' = j ∧ a' = a) ∨ (¬ (i' = i ∧ j' = j) ∧ ∃ row0, rows[i']? = some row0 ∧ row0[j']? = some a') := by
  have hil : i < rows.length := (List.getElem?_eq_some_iff.1 hi).1
  by_cases e1 : i' = i ∧ j' = j
  · obtain ⟨rfl, rfl⟩ := e1
    rw [List.getElem?_set_self hil] at hr
    cases hr
    rw [List.getElem?_set_self hj] at ha
    cases ha
    exact .inl ⟨rfl, rfl, rfl⟩
  · refine .inr ⟨e1, ?_⟩
    by_cases e2 : i = i'
    · subst e2
      rw [List.getElem?_set_self hil] at hr
      cases hr
      have e3 : j ≠ j' := fun e3 => e1 ⟨rfl, e3.symm⟩
      rw [List.getElem?_set_ne e3] at ha
      exact ⟨row, hi, ha⟩
    · rw [List.getElem?_set_ne e2] at hr
      exact ⟨row', hr, ha⟩
theorem set_rowlen {rows : Rows} {i j sz : Nat} {row : List AV} {a : AV} (hi : rows[i]? = some row) (hl : ∀ r ∈ rows, r.length = sz) : ∀ r ∈ rows.set i (row.set j a), r.length = sz := by
  intro r hr
  rcases List.mem_or_eq_of_mem_set hr with hr | rfl
  · exact hl r hr
  · rw [List.length_set]; exact hl row (mem_get hi)

/-- What is known of a write: the place, and the cell that comes there. -/
structure Put1 (w : World) (wr : Wrs) (h : Heap) (g : Gh) (P : Nat → Path → Prop) (r : Nat) (x : Root) (p : Path) (b o n c sz : Nat) (rows : Rows) (i j : Nat) (row : List AV) (S2 : BS) (u : Value) (a : AV) : Prop where
  rel : Rel w wr h g
  hx : h[r]?.join = some x
  ro : x.ro = false
  hp : hwalk w h g r p = some (.slice (some ⟨b, o, none⟩) n c, sz, rows)
  hi : rows[i]? = some row
  hj : j < row.length
  /-- names that go on through the place are not among those that are kept -/
  thru : ∀ q, P r q → (∃ y, hwalk w h g r q = some y) → ¬ (p ++ [(i, j)] <+: q)
  refs : HRefs P h
  /-- the cell: a tree of its own, or (written out) a name -/
  tree : isX a = false → TR w true (Kr w wr false) S2 u a
  name : isX a = true → x.box = true ∧ p = [] ∧ x.virt = false ∧ VR w h g u a ∧ Refs P a
  apart : ∀ r' x' k, h[r']?.join = some x' → S2 k → ¬ g.F r' k
  low : ∀ k, S2 k → k < w.heap.size

section
variable {w : World} {wr : Wrs} {h : Heap} {g : Gh} {P : Nat → Path → Prop} {r : Nat} {x : Root} {p : Path} {b o n c sz : Nat} {rows : Rows} {i j : Nat} {row : List AV} {S2 : BS} {u : Value} {a : AV}

def gPut (g : Gh) (r : Nat) (S2 : BS) : Gh := ⟨g.ρ, g.G, fun r' => if r' = r then (fun k => g.F r k ∨ S2 k) else g.F r'⟩

/-- the place's own block is the root's -/
theorem Put1.main (H : Put1 w wr h g P r x p b o n c sz rows i j row S2 u a) :
    g.F r b ∧ (w.cell? ⟨b, o + i * sz + j, none⟩).isSome ∧ w.frozen? ⟨b, o + i * sz + j, none⟩ = false ∧ wr b (o + i * sz + j) ∧
    (Keeps P w h g (w.setCell ⟨b, o + i * sz + j, none⟩ u) (upd h r x p (rows.set i (row.set j a))) (gPut g r S2) →
      RootR (w.setCell ⟨b, o + i * sz + j, none⟩ u) wr (upd h r x p (rows.set i (row.set j a))) (gPut g r S2) r { x with rows := updR p x.rows (rows.set i (row.set j a)) }) ∧
    ∀ q v s t, hwalk w h g r q = some (v, s, t) → ¬ (p ++ [(i, j)] <+: q) → ∃ t', hwalk (w.setCell ⟨b, o + i * sz + j, none⟩ u) (upd h r x p (rows.set i (row.set j a))) (gPut g r S2) r q = some (v, s, t') ∧ t'.length = t.length := by
  have hR := H.rel.root r x H.hx
  have hupd : (upd h r x p (rows.set i (row.set j a)))[r]?.join = some { x with rows := updR p x.rows (rows.set i (row.set j a)) } := by simp [upd, put_get]
  have hFr : (gPut g r S2).F r = fun k => g.F r k ∨ S2 k := by simp [gPut]
  obtain ⟨x0, hx0, hres, hvp⟩ := hwalk_res H.hp
  obtain ⟨b1, o1, n1, c1, u1, hv1, hu1, hrl, hcase0⟩ := H.rel.cell H.hp H.hi (List.getElem?_eq_getElem H.hj)
  simp only [Value.slice.injEq, Option.some.injEq, Addr.mk.injEq] at hv1
  obtain ⟨⟨rfl, rfl, _⟩, rfl, rfl⟩ := hv1
  unfold RootR at hR
  cases hvt : x.virt with
  | false =>
    simp only [hvt] at hR
    have hw0 : ∀ q, hwalk w h g r q = walk w (g.ρ r) x.sz x.rows q := fun q => by simp [hwalk, H.hx, hvt]
    have hw1 : ∀ q, hwalk (w.setCell ⟨b, o + i * sz + j, none⟩ u) (upd h r x p (rows.set i (row.set j a))) (gPut g r S2) r q =
        walk (w.setCell ⟨b, o + i * sz + j, none⟩ u) (g.ρ r) x.sz (updR p x.rows (rows.set i (row.set j a))) q := fun q => by simp [hwalk, hupd, hvt, gPut]
    have hp' := H.hp
    rw [hw0] at hp'
    cases hbx : x.box with
    | false =>
      simp only [hbx, H.ro, Bool.not_false] at hR
      have hnx : isX a = false := by
        cases hx : isX a with
        | false => rfl
        | true => have := (H.name hx).1; rw [hbx] at this; cases this
      obtain ⟨k1, k2, k3⟩ := hR.set hp' H.hi H.hj (H.tree hnx) (fun k hk => H.apart r x k H.hx hk)
      obtain ⟨v', S', e1, e2, e3⟩ := hR.get (walk_res hp')
      rw [hp'] at e1
      simp only [Option.some.injEq, Prod.mk.injEq, and_true] at e1
      subst e1
      have hil : i < rows.length := (List.getElem?_eq_some_iff.1 H.hi).1
      have hK : Kr w wr false b (o + i * sz + j) := by
        rcases e2.lst_inv with ⟨rfl, _⟩ | ⟨b', o', c', cs, e, fz, f, hv, hb, hs, hc, hl, hK, _⟩
        · simp at hil
        · simp only [Value.slice.injEq, Option.some.injEq, Addr.mk.injEq] at hv
          obtain ⟨⟨rfl, rfl, _⟩, rfl, rfl⟩ := hv
          exact hK.2 _ (by have := Nat.zero_le (i * sz); omega) (idx_lt hil hc (by rw [← hrl]; exact H.hj))
      refine ⟨k1, by simp [hu1], hK.2, hK.1, fun _ => ?_, fun q v s t hq hn => ?_⟩
      · unfold RootR
        simp only [hvt, hbx, H.ro, Bool.not_false, hFr]
        exact k2.setK
      · rw [hw0] at hq
        rw [hw1]
        exact k3 q v s t hq hn
    | true =>
      simp only [hbx] at hR
      obtain ⟨b', o', cs, e0, fz, f, h1, h2, h3, h4, h5, h6, h7, h8, h9⟩ := hR
      obtain ⟨d1, d2⟩ := h8 H.ro
      rw [H.ro] at h5 h9
      cases p with
      | nil =>
        rw [h1] at hp'
        simp only [walk, Option.some.injEq, Prod.mk.injEq, Value.slice.injEq, Addr.mk.injEq, and_true] at hp'
        obtain ⟨⟨⟨rfl, rfl⟩, rfl, rfl⟩, rfl, rfl⟩ := hp'
        have hil : i < x.rows.length := (List.getElem?_eq_some_iff.1 H.hi).1
        have hjs : j < x.sz := by rw [← hrl]; exact H.hj
        have hq : o' + i * x.sz + j < cs.size := Nat.lt_of_lt_of_le (idx_lt hil (Nat.le_refl _) hjs) h3
        have hK := h5 (o' + i * x.sz + j) (by have := Nat.zero_le (i * x.sz); omega) (idx_lt hil (Nat.le_refl _) hjs)
        have hother : ∀ k, k ≠ b' → (w.setCell ⟨b', o' + i * x.sz + j, none⟩ u).heap[k]? = w.heap[k]? := fun k hk => setCell_other hk
        have hne : ∀ i' j', j' < x.sz → ¬ (i' = i ∧ j' = j) → o' + i' * x.sz + j' ≠ o' + i * x.sz + j := fun i' j' hj' hn e => hn (idx_inj hj' hjs (by omega))
        refine ⟨h6, by simp [hu1], hK.2, hK.1, fun keeps => ?_, fun q v s t hq' hn => ?_⟩
        · unfold RootR
          simp only [hvt, hbx]
          refine ⟨b', o', cs.setIfInBounds (o' + i * x.sz + j) u, e0, fz, fun i' j' => if i' = i ∧ j' = j then S2 else f i' j', ?_, setCell_heap h2, ?_, ?_, ?_, ?_, ?_, ?_, ?_⟩
          · simp only [gPut, updR, List.length_set]; exact h1
          · simp only [updR, List.length_set, Array.size_setIfInBounds]; exact h3
          · simp only [updR]; exact set_rowlen H.hi h4
          · intro q q1 q2
            simp only [updR, List.length_set] at q2
            rw [H.ro]
            exact Kr_setCell (h5 q q1 q2)
          · rw [hFr]; exact .inl h6
          · intro i' j' k hk
            rw [hFr]
            split at hk
            · exact .inr hk
            · exact .inl (h7 i' j' k hk)
          · intro _
            refine ⟨fun i' j' hk => ?_, fun i1 j1 i2 j2 k k1 k2 => ?_⟩
            · dsimp only at hk
              split at hk
              · exact H.apart r x _ H.hx hk h6
              · exact d1 i' j' hk
            · dsimp only at k1 k2
              split at k1 <;> split at k2
              · rename_i a1 a2; exact ⟨a1.1.trans a2.1.symm, a1.2.trans a2.2.symm⟩
              · exact absurd (h7 _ _ _ k2) (H.apart r x _ H.hx k1)
              · exact absurd (h7 _ _ _ k1) (H.apart r x _ H.hx k2)
              · exact d2 _ _ _ _ k k1 k2
          · intro i' j' row' a' hr ha
            simp only [updR] at hr
            simp only [H.ro]
            rcases set_cases H.hi H.hj hr ha with ⟨rfl, rfl, rfl⟩ | ⟨hn, row0, hr0, ha0⟩
            · rw [cellSet_self hq]
              simp only [and_self, if_true]
              unfold CellB
              cases hx : isX a' with
              | true => exact VR.keep keeps (H.name hx).2.2.2.1 (H.name hx).2.2.2.2
              | false =>
                simp only [Bool.not_false]
                exact ((H.tree hx).world (fun k hk => hother k (fun e => H.apart r x _ H.hx hk (e ▸ h6)))).setK
            · have hj' : j' < x.sz := by rw [← h4 row0 (mem_get hr0)]; exact (List.getElem?_eq_some_iff.1 ha0).1
              rw [cellSet (hne i' j' hj' hn), if_neg hn]
              have hc := h9 i' j' row0 a' hr0 ha0
              unfold CellB at hc ⊢
              cases hx : isX a' with
              | true =>
                simp only [hx] at hc
                exact VR.keep keeps hc (H.refs r x row0 a' H.hx hbx (mem_get hr0) (mem_get ha0) hx)
              | false =>
                simp only [hx] at hc
                exact (hc.world (fun k hk => hother k (fun e => d1 i' j' (e ▸ hk)))).setK
        · rw [hw0] at hq'
          rw [hw1]
          rw [h1] at hq' ⊢
          cases q with
          | nil =>
            simp only [walk, Option.some.injEq, Prod.mk.injEq] at hq'
            obtain ⟨rfl, rfl, rfl⟩ := hq'
            exact ⟨_, rfl, by simp [updR]⟩
          | cons q1 q =>
            obtain ⟨i1, j1⟩ := q1
            have e1 : ¬ (i1 = i ∧ j1 = j) := fun e => hn (by obtain ⟨rfl, rfl⟩ := e; simp)
            rw [walk_box h2] at hq'
            split at hq'
            · cases hq'
            · rename_i row1 r1
              split at hq'
              · rename_i sz1 rows1 r2
                split at hq'
                · rename_i v1 r3
                  have hj1 : j1 < x.sz := by rw [← h4 row1 (mem_get r1)]; exact (List.getElem?_eq_some_iff.1 r2).1
                  have hchild := h9 i1 j1 row1 _ r1 r2
                  simp only [CellB, isX, getD_of r3] at hchild
                  have hnew : ∃ row2, (x.rows.set i (row.set j a))[i1]? = some row2 ∧ row2[j1]? = some (.lst sz1 rows1) := by
                    by_cases e3 : i = i1
                    · subst e3
                      have e4 : j ≠ j1 := fun e4 => e1 ⟨rfl, e4.symm⟩
                      have := H.hi
                      rw [this] at r1
                      cases r1
                      exact ⟨_, List.getElem?_set_self hil, by rw [List.getElem?_set_ne e4]; exact r2⟩
                    · exact ⟨row1, by rw [List.getElem?_set_ne e3]; exact r1, r2⟩
                  obtain ⟨row2, h10, h11⟩ := hnew
                  refine ⟨t, ?_, rfl⟩
                  rw [walk_box (setCell_heap h2)]
                  simp only [updR, h10, h11]
                  rw [Array.getElem?_setIfInBounds_ne (Ne.symm (hne i1 j1 hj1 e1)), r3]
                  simp only
                  rw [walk_world hchild (fun k hk => hother k (fun e => d1 i1 j1 (e ▸ hk)))]
                  exact hq'
                · cases hq'
              · cases hq'
      | cons q0 p =>
        obtain ⟨i0, j0⟩ := q0
        have hnx : isX a = false := by
          cases hx : isX a with
          | false => rfl
          | true => have := (H.name hx).2.1; cases this
        rw [h1, walk_box h2] at hp'
        split at hp'
        · cases hp'
        · rename_i row1 r1
          split at hp'
          · rename_i sz1 rows1 r2
            split at hp'
            · rename_i v1 r3
              have hil : i0 < x.rows.length := (List.getElem?_eq_some_iff.1 r1).1
              have hjl : j0 < row1.length := (List.getElem?_eq_some_iff.1 r2).1
              have hchild := h9 i0 j0 row1 _ r1 r2
              simp only [CellB, isX, getD_of r3, Bool.not_false] at hchild
              obtain ⟨g1, g2, g3⟩ := hchild.set hp' H.hi H.hj (H.tree hnx) (fun k hk hf' => H.apart r x k H.hx hk (h7 _ _ _ hf'))
              have hbb : b' ≠ b := fun e => d1 i0 j0 (e ▸ g1)
              have hother : ∀ k, k ≠ b → (w.setCell ⟨b, o + i * sz + j, none⟩ u).heap[k]? = w.heap[k]? := fun k hk => setCell_other hk
              have hb2 : (w.setCell ⟨b, o + i * sz + j, none⟩ u).heap[b']? = some (.cells cs e0 fz) := (hother b' hbb).trans h2
              obtain ⟨v', S', e1, e2, e3⟩ := hchild.get (walk_res hp')
              rw [hp'] at e1
              simp only [Option.some.injEq, Prod.mk.injEq, and_true] at e1
              subst e1
              have hil2 : i < rows.length := (List.getElem?_eq_some_iff.1 H.hi).1
              have hK : Kr w wr false b (o + i * sz + j) := by
                rcases e2.lst_inv with ⟨rfl, _⟩ | ⟨b'', o'', c', cs', e, fz', f', hv, hb, hs, hc, hl, hK, _⟩
                · simp at hil2
                · simp only [Value.slice.injEq, Option.some.injEq, Addr.mk.injEq] at hv
                  obtain ⟨⟨rfl, rfl, _⟩, rfl, rfl⟩ := hv
                  exact hK.2 _ (by have := Nat.zero_le (i * sz); omega) (idx_lt hil2 hc (by rw [← hrl]; exact H.hj))
              have eqU : updR ((i0, j0) :: p) x.rows (rows.set i (row.set j a)) = x.rows.set i0 (row1.set j0 (.lst sz1 (updR p rows1 (rows.set i (row.set j a))))) := by simp only [updR, r1, r2]
              refine ⟨h7 _ _ _ g1, by simp [hu1], hK.2, hK.1, fun keeps => ?_, fun q v s t hq' hn => ?_⟩
              · unfold RootR
                simp only [hvt, hbx]
                refine ⟨b', o', cs, e0, fz, fun i' j' => if i' = i0 ∧ j' = j0 then (fun k => f i0 j0 k ∨ S2 k) else f i' j', ?_, hb2, ?_, ?_, ?_, ?_, ?_, ?_, ?_⟩
                · simp only [gPut, eqU, List.length_set]; exact h1
                · simp only [eqU, List.length_set]; exact h3
                · simp only [eqU]; exact set_rowlen r1 h4
                · intro q q1 q2
                  simp only [eqU, List.length_set] at q2
                  rw [H.ro]
                  exact Kr_setCell (h5 q q1 q2)
                · rw [hFr]; exact .inl h6
                · intro i' j' k hk
                  rw [hFr]
                  split at hk
                  · rcases hk with hk | hk
                    · exact .inl (h7 _ _ _ hk)
                    · exact .inr hk
                  · exact .inl (h7 i' j' k hk)
                · intro _
                  refine ⟨fun i' j' hk => ?_, fun i1 j1 i2 j2 k k1 k2 => ?_⟩
                  · dsimp only at hk
                    split at hk
                    · rcases hk with hk | hk
                      · exact d1 _ _ hk
                      · exact H.apart r x _ H.hx hk h6
                    · exact d1 i' j' hk
                  · dsimp only at k1 k2
                    split at k1 <;> split at k2
                    · rename_i a1 a2; exact ⟨a1.1.trans a2.1.symm, a1.2.trans a2.2.symm⟩
                    · rename_i a1 a2
                      rcases k1 with k1 | k1
                      · have := d2 _ _ _ _ k k1 k2; exact absurd ⟨this.1.symm, this.2.symm⟩ a2
                      · exact absurd (h7 _ _ _ k2) (H.apart r x _ H.hx k1)
                    · rename_i a1 a2
                      rcases k2 with k2 | k2
                      · exact absurd (d2 _ _ _ _ k k1 k2) a1
                      · exact absurd (h7 _ _ _ k1) (H.apart r x _ H.hx k2)
                    · exact d2 _ _ _ _ k k1 k2
                · intro i' j' row' a' hr ha
                  simp only [eqU] at hr
                  simp only [H.ro]
                  rcases set_cases r1 hjl hr ha with ⟨rfl, rfl, rfl⟩ | ⟨hn, row0, hr0, ha0⟩
                  · simp only [and_self, if_true, CellB, isX, getD_of r3, Bool.not_false]
                    exact g2.setK
                  · rw [if_neg hn]
                    have hc := h9 i' j' row0 a' hr0 ha0
                    unfold CellB at hc ⊢
                    cases hx : isX a' with
                    | true =>
                      simp only [hx] at hc
                      exact VR.keep keeps hc (H.refs r x row0 a' H.hx hbx (mem_get hr0) (mem_get ha0) hx)
                    | false =>
                      simp only [hx] at hc
                      exact (hc.world (fun k hk => hother k (fun e => hn (d2 _ _ _ _ b (e ▸ hk) g1)))).setK
              · rw [hw0] at hq'
                rw [hw1]
                rw [h1] at hq' ⊢
                cases q with
                | nil =>
                  simp only [walk, Option.some.injEq, Prod.mk.injEq] at hq'
                  obtain ⟨rfl, rfl, rfl⟩ := hq'
                  exact ⟨_, rfl, by simp [eqU]⟩
                | cons q1 q =>
                  obtain ⟨i1, j1⟩ := q1
                  rw [walk_box h2] at hq'
                  rw [walk_box hb2, eqU]
                  by_cases e1 : i1 = i0 ∧ j1 = j0
                  · obtain ⟨rfl, rfl⟩ := e1
                    simp only [r1, r2, r3] at hq'
                    obtain ⟨t', k4, k5⟩ := g3 q v s t hq' (fun hh => hn (by simpa using hh))
                    refine ⟨t', ?_, k5⟩
                    simp only [List.getElem?_set_self hil, List.getElem?_set_self hjl, r3]
                    exact k4
                  · split at hq'
                    · cases hq'
                    · rename_i row3 s1
                      split at hq'
                      · rename_i sz3 rows3 s2
                        split at hq'
                        · rename_i v3 s3
                          have hchild3 := h9 i1 j1 row3 _ s1 s2
                          simp only [CellB, isX, getD_of s3] at hchild3
                          have hnew : ∃ row2, (x.rows.set i0 (row1.set j0 (.lst sz1 (updR p rows1 (rows.set i (row.set j a))))))[i1]? = some row2 ∧ row2[j1]? = some (.lst sz3 rows3) := by
                            by_cases e3 : i0 = i1
                            · subst e3
                              have e4 : j0 ≠ j1 := fun e4 => e1 ⟨rfl, e4.symm⟩
                              rw [r1] at s1
                              cases s1
                              exact ⟨_, List.getElem?_set_self hil, by rw [List.getElem?_set_ne e4]; exact s2⟩
                            · exact ⟨row3, by rw [List.getElem?_set_ne e3]; exact s1, s2⟩
                          obtain ⟨row2, h10, h11⟩ := hnew
                          refine ⟨t, ?_, rfl⟩
                          simp only [h10, h11, s3]
                          rw [walk_world hchild3 (fun k hk => hother k (fun e => e1 (d2 _ _ _ _ b (e ▸ hk) g1)))]
                          exact hq'
                        · cases hq'
                      · cases hq'
            · cases hp'
          · cases hp'
  | true =>
    simp only [hvt] at hR
    obtain ⟨vrow, f, h1, h2, h3, h4, h5⟩ := hR
    have d2 := h4 H.ro
    rw [H.ro] at h5
    have hnx : isX a = false := by
      cases hx : isX a with
      | false => rfl
      | true => have := (H.name hx).2.2.1; rw [hvt] at this; cases this
    have hp' := H.hp
    unfold hwalk at hp'
    simp only [H.hx, hvt] at hp'
    cases p with
    | nil => simp at hp'
    | cons q0 p =>
      obtain ⟨i0, j0⟩ := q0
      dsimp only at hp'
      split at hp'
      · cases hp'
      · rename_i row1 r1
        split at hp'
        · rename_i sz1 rows1 r2
          split at hp'
          · rename_i r3
            rw [h1] at r1
            simp only [List.getElem?_cons_zero, Option.some.injEq] at r1
            subst r1
            have hjl : j0 < vrow.length := (List.getElem?_eq_some_iff.1 r2).1
            have hchild := h5 j0 _ _ r2 r3
            simp only [Bool.not_false] at hchild
            obtain ⟨g1, g2, g3⟩ := hchild.set hp' H.hi H.hj (H.tree hnx) (fun k hk hf' => H.apart r x k H.hx hk (h3 _ _ hf'))
            have hother : ∀ k, k ≠ b → (w.setCell ⟨b, o + i * sz + j, none⟩ u).heap[k]? = w.heap[k]? := fun k hk => setCell_other hk
            obtain ⟨v', S', e1, e2, e3⟩ := hchild.get (walk_res hp')
            rw [hp'] at e1
            simp only [Option.some.injEq, Prod.mk.injEq, and_true] at e1
            subst e1
            have hil2 : i < rows.length := (List.getElem?_eq_some_iff.1 H.hi).1
            have hK : Kr w wr false b (o + i * sz + j) := by
              rcases e2.lst_inv with ⟨rfl, _⟩ | ⟨b'', o'', c', cs', e, fz', f', hv, hb, hs, hc, hl, hK, _⟩
              · simp at hil2
              · simp only [Value.slice.injEq, Option.some.injEq, Addr.mk.injEq] at hv
                obtain ⟨⟨rfl, rfl, _⟩, rfl, rfl⟩ := hv
                exact hK.2 _ (by have := Nat.zero_le (i * sz); omega) (idx_lt hil2 hc (by rw [← hrl]; exact H.hj))
            have eqU : updR ((0, j0) :: p) x.rows (rows.set i (row.set j a)) = [vrow.set j0 (.lst sz1 (updR p rows1 (rows.set i (row.set j a))))] := by simp only [updR, h1, List.getElem?_cons_zero, r2, List.set_cons_zero]
            refine ⟨h3 _ _ g1, by simp [hu1], hK.2, hK.1, fun keeps => ?_, fun q v s t hq' hn => ?_⟩
            · unfold RootR
              simp only [hvt]
              refine ⟨vrow.set j0 (.lst sz1 (updR p rows1 (rows.set i (row.set j a)))), fun j' => if j' = j0 then (fun k => f j0 k ∨ S2 k) else f j', eqU, ?_, ?_, ?_, ?_⟩
              · simp only [gPut, List.length_set]; exact h2
              · intro j' k hk
                rw [hFr]
                split at hk
                · rcases hk with hk | hk
                  · exact .inl (h3 _ _ hk)
                  · exact .inr hk
                · exact .inl (h3 _ _ hk)
              · intro _ j1 j2 k k1 k2
                split at k1 <;> split at k2
                · rename_i a1 a2; exact a1.trans a2.symm
                · rename_i a1 a2
                  rcases k1 with k1 | k1
                  · exact absurd (d2 _ _ _ k1 k2).symm a2
                  · exact absurd (h3 _ _ k2) (H.apart r x _ H.hx k1)
                · rename_i a1 a2
                  rcases k2 with k2 | k2
                  · exact absurd (d2 _ _ _ k1 k2) a1
                  · exact absurd (h3 _ _ k1) (H.apart r x _ H.hx k2)
                · exact d2 _ _ _ k1 k2
              · intro j' a' v ha hv
                simp only [gPut] at hv
                simp only [H.ro, Bool.not_false]
                by_cases e : j' = j0
                · subst e
                  rw [List.getElem?_set_self hjl] at ha
                  cases ha
                  rw [r3] at hv
                  cases hv
                  simp only [if_true]
                  exact g2.setK
                · rw [List.getElem?_set_ne (Ne.symm e)] at ha
                  rw [if_neg e]
                  have := h5 j' a' v ha hv
                  exact (this.world (fun k hk => hother k (fun e' => e (d2 _ _ _ (e' ▸ hk) g1)))).setK
            · unfold hwalk at hq' ⊢
              simp only [H.hx, hvt] at hq'
              simp only [hupd, hvt, gPut]
              cases q with
              | nil => simp at hq'
              | cons q1 q =>
                obtain ⟨i1, j1⟩ := q1
                dsimp only at hq' ⊢
                rw [eqU]
                rw [h1] at hq'
                split at hq'
                · cases hq'
                · rename_i row3 s1
                  split at hq'
                  · rename_i sz3 rows3 s2
                    split at hq'
                    · rename_i s3
                      simp only [List.getElem?_cons_zero, Option.some.injEq] at s1
                      subst s1
                      simp only [List.getElem?_cons_zero]
                      by_cases e1 : j1 = j0
                      · subst e1
                        rw [r2] at s2
                        cases s2
                        rw [r3] at s3
                        cases s3
                        obtain ⟨t', k4, k5⟩ := g3 q v s t hq' (fun hh => hn (by simpa using hh))
                        refine ⟨t', ?_, k5⟩
                        simp only [List.getElem?_set_self hjl, r3]
                        exact k4
                      · have hchild3 := h5 j1 _ _ s2 s3
                        refine ⟨t, ?_, rfl⟩
                        simp only [List.getElem?_set_ne (Ne.symm e1), s2, s3]
                        rw [walk_world hchild3 (fun k hk => hother k (fun e' => e1 (d2 _ _ _ (e' ▸ hk) g1)))]
                        exact hq'
                    · cases hq'
                  · cases hq'
          · cases hp'
        · cases hp'
end
end Go.Abs

/- Soundness 12: the whole state; cells put into place. -/
namespace Go.Abs

inductive StkR (w : World) (h : Heap) (g : Gh) : List (List Value) → List (List AV) → Prop
  | nil : StkR w h g [] []
  | cons {vs : List Value} {e : List AV} {ts : List (List Value)} {s : List (List AV)} (h1 : VRs w h g vs e) (h2 : StkR w h g ts s) : StkR w h g (vs :: ts) (e :: s)

structure Good (w : World) (wr : Wrs) (ts : List (List Value)) (tm : List Value) (st : St) (g : Gh) : Prop where
  rel : Rel w wr st.heap g
  env : VRs w st.heap g tm st.env
  stk : StkR w st.heap g ts st.stk

def SRefs (P : Nat → Path → Prop) (st : St) : Prop := RefsL P st.env ∧ (∀ e ∈ st.stk, RefsL P e) ∧ HRefs P st.heap
theorem SRefs.all {P : Nat → Path → Prop} (hP : ∀ r p, P r p) (st : St) : SRefs P st := ⟨RefsL.all hP _, fun _ _ => RefsL.all hP _, HRefs.all hP _⟩

theorem StkR.keep {P : Nat → Path → Prop} {w w' : World} {h h' : Heap} {g g' : Gh} (H : Keeps P w h g w' h' g') : ∀ {ts : List (List Value)} {s : List (List AV)}, StkR w h g ts s → (∀ e ∈ s, RefsL P e) → StkR w' h' g' ts s
  | _, _, .nil, _ => .nil
  | _, _, .cons h1 h2, hr => .cons (VRs.keep H h1 (hr _ (by simp))) (StkR.keep H h2 fun e he => hr e (by simp [he]))
theorem Good.keep {P : Nat → Path → Prop} {w w' : World} {wr : Wrs} {ts : List (List Value)} {tm : List Value} {st : St} {g g' : Gh} {h' : Heap} (G : Good w wr ts tm st g) (hs : SRefs P st)
    (H : Keeps P w st.heap g w' h' g') (hr : Rel w' wr h' g') : Good w' wr ts tm ⟨st.env, st.stk, h'⟩ g' :=
  ⟨hr, VRs.keep H G.env hs.1, StkR.keep H G.stk hs.2.1⟩
theorem StkR.kill {w : World} {h : Heap} {g : Gh} (r : Nat) (c : List Nat) : ∀ {ts : List (List Value)} {s : List (List AV)}, StkR w h g ts s → StkR w (kHp r c h) g ts (s.map (·.map (kV2 r c)))
  | _, _, .nil => .nil
  | _, _, .cons h1 h2 => .cons (VRs.keep (kHp_keeps r c) (kL2_VR h1) (RefsL.all (fun _ _ => trivial) _)) (StkR.kill r c h2)
theorem Good.kill {w : World} {wr : Wrs} {ts : List (List Value)} {tm : List Value} {st : St} {g : Gh} (G : Good w wr ts tm st g) (r : Nat) (c : List Nat) :
    Good w wr ts tm (kSt r c st) g ∧ SRefs (NotThru r c) (kSt r c st) := by
  refine ⟨⟨G.rel.kill r c, VRs.keep (kHp_keeps r c) (kL2_VR G.env) (RefsL.all (fun _ _ => trivial) _), StkR.kill r c G.stk⟩, kL2_refs _, fun e he => ?_, kHp_refs r c _⟩
  obtain ⟨e0, _, rfl⟩ := List.mem_map.1 he
  exact kL2_refs _

/-- cells in hand: trees of their own, or names -/
inductive Hand (w : World) (wr : Wrs) (h : Heap) (g : Gh) (ex : Bool) : List Value → List AV → List BS → Prop
  | nil : Hand w wr h g ex [] [] []
  | cons {u : Value} {a : AV} {S : BS} {us : List Value} {l : List AV} {Ss : List BS} (h1 : isX a = false → TR w true (Kr w wr false) S u a) (h2 : isX a = true → ex = true ∧ VR w h g u a)
      (h3 : ∀ k, S k → k < w.heap.size ∧ ∀ r x, h[r]?.join = some x → ¬ g.F r k) (h4 : ∀ S' ∈ Ss, ∀ k, S k → ¬ S' k) (h5 : Hand w wr h g ex us l Ss) : Hand w wr h g ex (u :: us) (a :: l) (S :: Ss)

theorem past_refs {r : Nat} {c : List Nat} {a : AV} {l : List AV} (h : past r c (a :: l) = true) : (isX a = true → Refs (NotThru r c) a) ∧ past r c l = true := by
  cases a <;> simp only [past] at h <;> simp only [isX] <;> first
    | exact ⟨fun h => by simp at h, h⟩
    | (simp at h; done)
    | (split at h
       · rename_i e
         subst e
         split at h
         · simp at h
         · rename_i hpre
           exact ⟨fun _ => by simp [Refs, NotThru, thru, hpre], h⟩
       · rename_i e
         exact ⟨fun _ => by simp [Refs, NotThru, thru, e], h⟩)

/-- cells in hand stay good -/
theorem Hand.keep {w w' : World} {wr : Wrs} {h h' : Heap} {g g' : Gh} {ex : Bool} {r : Nat} {c : List Nat} {P : Nat → Path → Prop} (H : Keeps P w h g w' h' g')
    (hw : ∀ k, (∀ r x, h[r]?.join = some x → ¬ g.F r k) → k < w.heap.size → w'.heap[k]? = w.heap[k]?) (hsz : w.heap.size ≤ w'.heap.size) {S0 : BS}
    (hF : ∀ r' x' k, h'[r']?.join = some x' → g'.F r' k → S0 k ∨ ∃ x, h[r']?.join = some x ∧ g.F r' k) :
    ∀ {us : List Value} {l : List AV} {Ss : List BS}, Hand w wr h g ex us l Ss → (∀ a ∈ l, isX a = true → Refs P a) → (∀ S' ∈ Ss, ∀ k, S0 k → ¬ S' k) → Hand w' wr h' g' ex us l Ss
  | _, _, _, .nil, _, _ => .nil
  | _, _, _, .cons h1 h2 h3 h4 h5, hp, hS => .cons (fun hx => (h1 hx).same (fun b hb => hw b (h3 b hb).2 (h3 b hb).1)) (fun hx => ⟨(h2 hx).1, VR.keep H (h2 hx).2 (hp _ (by simp) hx)⟩)
      (fun k hk => ⟨Nat.lt_of_lt_of_le (h3 k hk).1 hsz, fun r' x' hx' hF' => by
        rcases hF r' x' k hx' hF' with h0 | ⟨x, hx, hf⟩
        · exact hS _ (by simp) k h0 hk
        · exact (h3 k hk).2 r' x hx hf⟩) h4 (Hand.keep (r := r) (c := c) H hw hsz hF h5 (fun a ha => hp a (by simp [ha])) (fun S' hS' => hS S' (by simp [hS'])))

theorem past_all {r : Nat} {c : List Nat} : ∀ {l : List AV}, past r c l = true → ∀ a ∈ l, isX a = true → Refs (NotThru r c) a
  | [], _, _, ha, _ => by simp at ha
  | a :: l, h, b, hb, hx => by
    obtain ⟨h1, h2⟩ := past_refs h
    rcases List.mem_cons.1 hb with rfl | hb
    · exact h1 hx
    · exact past_all h2 b hb hx

theorem upd_get (h : Heap) (r : Nat) (x : Root) (p : Path) (new : Rows) (r' : Nat) : (upd h r x p new)[r']?.join = if r' = r then some { x with rows := updR p x.rows new } else h[r']?.join := put_get _ _ _ _

/-- one cell, put into place -/
theorem put1_sound {w : World} {wr : Wrs} {ts : List (List Value)} {tm : List Value} {st : St} {g : Gh} {P : Nat → Path → Prop} {r : Nat} {x : Root} {p : Path} {b o n c sz : Nat} {rows : Rows} {i j : Nat} {row : List AV} {S2 : BS} {u : Value} {a : AV}
    (G : Good w wr ts tm st g) (hs : SRefs P st) (H : Put1 w wr st.heap g P r x p b o n c sz rows i j row S2 u a) :
    Good (w.setCell ⟨b, o + i * sz + j, none⟩ u) wr ts tm ⟨st.env, st.stk, upd st.heap r x p (rows.set i (row.set j a))⟩ (gPut g r S2) ∧
    Keeps P w st.heap g (w.setCell ⟨b, o + i * sz + j, none⟩ u) (upd st.heap r x p (rows.set i (row.set j a))) (gPut g r S2) ∧ g.F r b ∧
    (w.cell? ⟨b, o + i * sz + j, none⟩).isSome ∧ w.frozen? ⟨b, o + i * sz + j, none⟩ = false ∧ wr b (o + i * sz + j) ∧
    (¬ (p ++ [(i, j)] <+: p) → ∃ rows', hwalk (w.setCell ⟨b, o + i * sz + j, none⟩ u) (upd st.heap r x p (rows.set i (row.set j a))) (gPut g r S2) r p = some (.slice (some ⟨b, o, none⟩) n c, sz, rows')) := by
  obtain ⟨m1, m2, m3, m4, m5, m6⟩ := H.main
  have hother : ∀ k, k ≠ b → (w.setCell ⟨b, o + i * sz + j, none⟩ u).heap[k]? = w.heap[k]? := fun k hk => setCell_other hk
  have hgo : ∀ r', r' ≠ r → (gPut g r S2).ρ r' = g.ρ r' ∧ (gPut g r S2).G r' = g.G r' ∧ (gPut g r S2).F r' = g.F r' := fun r' hr => ⟨rfl, rfl, by simp [gPut, hr]⟩
  have hblk : ∀ r' x' k, r' ≠ r → st.heap[r']?.join = some x' → g.F r' k → (w.setCell ⟨b, o + i * sz + j, none⟩ u).heap[k]? = w.heap[k]? := by
    intro r' x' k hr hx' hF
    refine hother k fun e => ?_
    subst e
    exact H.rel.sep r x r' x' k H.hx hx' (Ne.symm hr) H.ro m1 hF
  have keeps : Keeps P w st.heap g (w.setCell ⟨b, o + i * sz + j, none⟩ u) (upd st.heap r x p (rows.set i (row.set j a))) (gPut g r S2) := by
    intro r' q v s t hP hq
    by_cases e : r' = r
    · subst e
      exact m6 q v s t hq (H.thru q hP ⟨_, hq⟩)
    · refine ⟨t, ?_, rfl⟩
      rw [hwalk_same (wr := wr) (fun x' hx' => H.rel.root r' x' hx') (by rw [upd_get, if_neg e]) ⟨(hgo r' e).1, (hgo r' e).2.1⟩ (fun x' k hx' hF => hblk r' x' k e hx' hF)]
      exact hq
  have hsz : (w.setCell ⟨b, o + i * sz + j, none⟩ u).heap.size = w.heap.size := by simp [World.setCell]
  have hFr : (gPut g r S2).F r = fun k => g.F r k ∨ S2 k := by simp [gPut]
  have hrel : Rel (w.setCell ⟨b, o + i * sz + j, none⟩ u) wr (upd st.heap r x p (rows.set i (row.set j a))) (gPut g r S2) := by
    refine H.rel.change (r := r) H.refs keeps (upd_get _ _ _ _ _) (by rw [hsz]; exact Nat.le_refl _) hblk hgo (fun x' hx' => by cases hx'; exact m5 keeps) (fun x' hx' r' y k hr hy hro hF1 hF2 => ?_) (fun x' _ k hF => ?_)
    · cases hx'
      rw [hFr] at hF1
      rcases hF1 with hF1 | hF1
      · exact H.rel.sep r x r' y k H.hx hy (Ne.symm hr) H.ro hF1 hF2
      · exact H.apart r' y k hy hF1 hF2
    · rw [hFr] at hF
      rw [hsz]
      rcases hF with hF | hF
      · exact H.rel.low r x k H.hx hF
      · exact H.low k hF
  exact ⟨G.keep hs keeps hrel, keeps, m1, m2, m3, m4, fun hn => let ⟨t', h1, _⟩ := m6 p _ _ _ H.hp hn; ⟨t', h1⟩⟩

end Go.Abs

/- Soundness 13: a row of cells, put into place. -/
namespace Go.Abs

theorem not_self_prefix {α : Type} {p : List α} {a : α} : ¬ (p ++ [a] <+: p) := fun h => by
  have := h.length_le
  simp at this; omega
theorem Hand.length {w : World} {wr : Wrs} {h : Heap} {g : Gh} {ex : Bool} : ∀ {us : List Value} {l : List AV} {Ss : List BS}, Hand w wr h g ex us l Ss → us.length = l.length
  | _, _, _, .nil => rfl
  | _, _, _, .cons _ _ _ _ h5 => by simp [Hand.length h5]

set_option maxHeartbeats 2000000 in
theorem putCells_sound {wr : Wrs} {ts : List (List Value)} {tm : List Value} {r : Nat} {p : Path} {i : Nat} {b o n c sz : Nat} {ex : Bool} {k : St → R} {res : Res} :
    ∀ (cs : List AV) (j : Nat) (us : List Value) (Ss : List BS) (st : St) (g : Gh) (w : World), putCells r p i j cs st k = some res → Good w wr ts tm st g →
      (∃ x, st.heap[r]?.join = some x ∧ x.ro = false ∧ (ex = true → x.box = true ∧ p = [] ∧ x.virt = false)) →
      (∃ rows, hwalk w st.heap g r p = some (.slice (some ⟨b, o, none⟩) n c, sz, rows)) → Hand w wr st.heap g ex us cs Ss →
      ∃ st' g', k st' = some res ∧ Good (w.setCells b (o + i * sz + j) us) wr ts tm st' g' ∧
        (∀ q, q < us.length → (w.cell? ⟨b, o + i * sz + j + q, none⟩).isSome = true ∧ w.frozen? ⟨b, o + i * sz + j + q, none⟩ = false ∧ wr b (o + i * sz + j + q)) := by
  intro cs
  induction cs with
  | nil =>
    intro j us Ss st g w h G hx hp hh
    cases hh
    exact ⟨st, g, h, G, fun q hq => by simp at hq⟩
  | cons a cs ih =>
    intro j us Ss st g w h G hx hp hh
    cases hh with
    | @cons u _ S us _ Ss h1 h2 h3 h4 h5 =>
    obtain ⟨x, hx1, hx2, hx3⟩ := hx
    obtain ⟨rows0, hp⟩ := hp
    -- what both ways come to
    have step : ∀ (P : Nat → Path → Prop) (st1 : St) (x1 : Root) (rows : Rows) (row : List AV), Good w wr ts tm st1 g → SRefs P st1 → st1.heap[r]?.join = some x1 → x1.ro = false → (ex = true → x1.box = true ∧ p = [] ∧ x1.virt = false) →
        hwalk w st1.heap g r p = some (.slice (some ⟨b, o, none⟩) n c, sz, rows) → rows[i]? = some row → j < row.length →
        (∀ q, P r q → (∃ y, hwalk w st1.heap g r q = some y) → ¬ (p ++ [(i, j)] <+: q)) → Hand w wr st1.heap g ex (u :: us) (a :: cs) (S :: Ss) → (∀ a' ∈ a :: cs, isX a' = true → Refs P a') →
        putCells r p i (j + 1) cs ⟨st1.env, st1.stk, upd st1.heap r x1 p (rows.set i (row.set j a))⟩ k = some res →
        ∃ st' g', k st' = some res ∧ Good (w.setCells b (o + i * sz + j) (u :: us)) wr ts tm st' g' ∧
          (∀ q, q < (u :: us).length → (w.cell? ⟨b, o + i * sz + j + q, none⟩).isSome = true ∧ w.frozen? ⟨b, o + i * sz + j + q, none⟩ = false ∧ wr b (o + i * sz + j + q)) := by
      intro P st1 x1 rows row G1 hs hx1' hro hex hp1 hi hj hthru hh1 hrefs hk
      cases hh1 with
      | cons h1 h2 h3 h4 h5 =>
      have H : Put1 w wr st1.heap g P r x1 p b o n c sz rows i j row S u a :=
        ⟨G1.rel, hx1', hro, hp1, hi, hj, hthru, hs.2.2, h1, fun hX => let ⟨e1, e2⟩ := h2 hX; let ⟨f1, f2, f3⟩ := hex e1; ⟨f1, f2, f3, e2, hrefs a (by simp) hX⟩, fun r' x' k hx' hS => (h3 k hS).2 r' x' hx', fun k hS => (h3 k hS).1⟩
      obtain ⟨G2, keeps, m1, m3, m4, m5, m6⟩ := put1_sound G1 hs H
      have hother : ∀ k, k ≠ b → (w.setCell ⟨b, o + i * sz + j, none⟩ u).heap[k]? = w.heap[k]? := fun k hk => setCell_other hk
      have hsz : (w.setCell ⟨b, o + i * sz + j, none⟩ u).heap.size = w.heap.size := by simp [World.setCell]
      have hand2 : Hand (w.setCell ⟨b, o + i * sz + j, none⟩ u) wr (upd st1.heap r x1 p (rows.set i (row.set j a))) (gPut g r S) ex us cs Ss := by
        refine Hand.keep (r := r) (c := []) keeps (fun k hk _ => hother k fun e => hk r x1 hx1' (e ▸ m1)) (by rw [hsz]; exact Nat.le_refl _) (S0 := S) ?_ h5 (fun a' ha' hX => hrefs a' (by simp [ha']) hX) h4
        intro r' x' k hx' hF
        rw [upd_get] at hx'
        by_cases e : r' = r
        · subst e
          simp only [gPut, if_true] at hF
          rcases hF with hF | hF
          · exact .inr ⟨x1, hx1', hF⟩
          · exact .inl hF
        · rw [if_neg e] at hx'
          simp only [gPut, if_neg e] at hF
          exact .inr ⟨x', hx', hF⟩
      obtain ⟨st', g', k1, k2, k3⟩ := ih (j + 1) us Ss _ (gPut g r S) _ hk G2 ⟨{ x1 with rows := updR p x1.rows (rows.set i (row.set j a)) }, by rw [upd_get, if_pos rfl], hro, hex⟩ (m6 not_self_prefix) hand2
      refine ⟨st', g', k1, by rw [World.setCells]; simpa only [Nat.add_assoc] using k2, fun q hq => ?_⟩
      cases q with
      | zero => exact ⟨m3, m4, m5⟩
      | succ q =>
        obtain ⟨e1, e2, e3⟩ := k3 q (by simpa using hq)
        rw [show o + i * sz + (j + 1) + q = o + i * sz + j + (q + 1) by omega] at e1 e2 e3
        rw [World.cell?_setCell_other _ _ _ _ (by intro e; simp only [Addr.mk.injEq] at e; omega)] at e1
        rw [World.frozen?_setCell] at e2
        exact ⟨e1, e2, e3⟩
    have hh0 : Hand w wr st.heap g ex (u :: us) (a :: cs) (S :: Ss) := .cons h1 h2 h3 h4 h5
    simp only [putCells] at h
    cases hsl : isSl a with
    | true =>
      simp only [hsl] at h
      rw [colsAnd_eq] at h
      split at h
      · rename_i hpast
        rw [kill_eq] at h
        obtain ⟨x1, sz1, rows, e1, e2, h⟩ := modH_inv h
        obtain ⟨row, e3, e4, h⟩ := setRC_inv h
        obtain ⟨G1, hs⟩ := G.kill r ((p ++ [(0, j)]).map Prod.snd)
        have e5 : x1 = kRt r ((p ++ [(0, j)]).map Prod.snd) x := by
          simp only [kSt, kHp_get, hx1, Option.map_some, Option.some.injEq] at e1
          exact e1.symm
        obtain ⟨f1, f2, f3, f4⟩ := kRt_flags r ((p ++ [(0, j)]).map Prod.snd) x
        obtain ⟨rows1, hp1, _⟩ := kHp_keeps (w := w) (h := st.heap) (g := g) r ((p ++ [(0, j)]).map Prod.snd) r p _ _ _ trivial hp
        obtain ⟨y, hy, hy2, _⟩ := hwalk_res hp1
        have e6 : y = x1 := by
          simp only [kSt] at e1
          rw [hy] at e1
          exact Option.some.inj e1
        subst e6
        rw [e2] at hy2
        simp only [Option.some.injEq, Prod.mk.injEq] at hy2
        obtain ⟨rfl, rfl⟩ := hy2
        have hand1 : Hand w wr (kHp r ((p ++ [(0, j)]).map Prod.snd) st.heap) g ex (u :: us) (a :: cs) (S :: Ss) := by
          refine Hand.keep (r := r) (c := []) (P := fun _ _ => True) (kHp_keeps r _) (fun k _ _ => rfl) (Nat.le_refl _) (S0 := fun _ => False) ?_ hh0 (fun a' _ _ => Refs.all (fun _ _ => trivial) a') (fun _ _ _ h => h.elim)
          intro r' x' k hx' hF
          rw [kHp_get] at hx'
          cases hx0 : st.heap[r']?.join with
          | none => simp [hx0] at hx'
          | some x0 => exact .inr ⟨x0, rfl, hF⟩
        refine step (NotThru r (List.map Prod.snd (p ++ [((0 : Nat), j)]))) (kSt r (List.map Prod.snd (p ++ [((0 : Nat), j)])) st) y rows row G1 hs e1 (by rw [e5, f1]; exact hx2) (fun he => by rw [e5, f2, f3]; exact hx3 he) hp1 e3 e4 (fun q hq _ hpre => ?_) hand1 (past_all hpast) h
        have : (p ++ [(0, j)]).map Prod.snd = (p ++ [(i, j)]).map Prod.snd := by simp
        rw [this] at hq
        exact not_prefix hq hpre
      · simp at h
    | false =>
      simp only [hsl] at h
      obtain ⟨x1, sz1, rows, e1, e2, h⟩ := modH_inv h
      obtain ⟨row, e3, h⟩ := getRow_inv h
      obtain ⟨old, e4, h⟩ := getE_inv h
      have e5 : x1 = x := by rw [hx1] at e1; exact (Option.some.inj e1).symm
      subst e5
      obtain ⟨y, hy, hy2, _⟩ := hwalk_res hp
      have e6 : y = x1 := by rw [hy] at hx1; exact Option.some.inj hx1
      subst e6
      rw [e2] at hy2
      simp only [Option.some.injEq, Prod.mk.injEq] at hy2
      obtain ⟨rfl, rfl⟩ := hy2
      have hold : (∀ s t, old ≠ .lst s t) ∧ setRC rows i j a (fun new => putCells r p i (j + 1) cs ⟨st.env, st.stk, upd st.heap r y p new⟩ k) = some res := by
        split at h
        · simp at h
        · rename_i hn
          exact ⟨fun s t e => hn s t e, h⟩
      obtain ⟨hnl, h⟩ := hold
      obtain ⟨row', e7, e8, h⟩ := setRC_inv h
      rw [e3] at e7
      cases e7
      refine step (fun _ _ => True) st y rows row G (SRefs.all (fun _ _ => trivial) st) hx1 hx2 hx3 hp e3 e8 (fun q _ hq hpre => ?_) hh0 (fun a' _ _ => Refs.all (fun _ _ => trivial) a') h
      obtain ⟨q', rfl⟩ := hpre
      obtain ⟨y', hy'⟩ := hq
      rw [List.append_assoc, hwalk_append hp] at hy'
      simp only [List.singleton_append, walk, e3, e4] at hy'
      split at hy'
      · rename_i s t hst
        exact hnl s t (by simpa using hst)
      · simp at hy'

end Go.Abs

/- Soundness 14: a list is taken away from where it lies. -/
namespace Go.Abs

/-- the cell of the topmost row on the way to what is taken -/
theorem top_cut {p : Path} {sz : Nat} {rows : Rows} {sz' : Nat} {rows' : Rows} {i j : Nat} {row : List AV} {szt : Nat} {t : Rows}
    (hp : resR p sz rows = some (sz', rows')) (hi : rows'[i]? = some row) (hj : row[j]? = some (.lst szt t)) :
    ∃ i0 j0 row0 sz0 rows0 a0 p2, rows[i0]? = some row0 ∧ row0[j0]? = some (.lst sz0 rows0) ∧ updR p rows (rows'.set i (row.set j .undef)) = rows.set i0 (row0.set j0 a0) ∧
      p ++ [(i, j)] = (i0, j0) :: p2 ∧ isX a0 = false ∧ (∀ sz rows, a0 = .lst sz rows → p2 ≠ []) ∧
      (∀ (w : World) (K : CS) (S : BS) (v : Value), TR w true K S v (.lst sz0 rows0) → ∃ S2 vt, (∀ k, S2 k → S k) ∧ walk w v sz0 rows0 p2 = some (vt, szt, t) ∧
        TR w true K S2 vt (.lst szt t) ∧ TR w true K (fun k => S k ∧ ¬ S2 k) v a0) := by
  cases p with
  | nil =>
    simp only [resR, Option.some.injEq, Prod.mk.injEq] at hp
    obtain ⟨rfl, rfl⟩ := hp
    exact ⟨i, j, row, szt, t, .undef, [], hi, hj, rfl, rfl, rfl, fun _ _ h => (by cases h), fun w K S v h => ⟨S, v, fun _ h => h, rfl, h, .undef v⟩⟩
  | cons q p =>
    obtain ⟨i0, j0⟩ := q
    simp only [resR] at hp
    split at hp
    · cases hp
    · rename_i row1 h1
      split at hp
      · rename_i sz1 rows1 h2
        refine ⟨i0, j0, row1, sz1, rows1, .lst sz1 (updR p rows1 (rows'.set i (row.set j .undef))), p ++ [(i, j)], h1, h2, by simp only [updR, h1, h2], rfl, rfl, fun _ _ _ => by simp, fun w K S v h => ?_⟩
        obtain ⟨S2, vt, g1, g2, g3, g4⟩ := h.take hp hi hj
        exact ⟨S2, vt, g1, g2, g3, g4⟩
      · cases hp

/-- a walk in a tree from which a cell was taken is a walk in the tree as it was -/
theorem walk_back {w : World} {v : Value} {sz : Nat} {rows : Rows} {p : Path} {sz' : Nat} {rows' : Rows} {i j : Nat} {row : List AV}
    (hp : resR p sz rows = some (sz', rows')) (hi : rows'[i]? = some row) (hj : j < row.length) {q : Path} {vq : Value} {szq : Nat} {rowsq : Rows}
    (hw : walk w v sz (updR p rows (rows'.set i (row.set j .undef))) q = some (vq, szq, rowsq)) :
    (∃ rowsq', walk w v sz rows q = some (vq, szq, rowsq') ∧ rowsq'.length = rowsq.length) ∧ ¬ (p ++ [(i, j)] <+: q) := by
  induction p generalizing v sz rows q with
  | nil =>
    simp only [resR, Option.some.injEq, Prod.mk.injEq] at hp
    obtain ⟨rfl, rfl⟩ := hp
    have hil : i < rows.length := (List.getElem?_eq_some_iff.1 hi).1
    simp only [updR] at hw
    cases q with
    | nil =>
      simp only [walk, Option.some.injEq, Prod.mk.injEq] at hw
      obtain ⟨rfl, rfl, rfl⟩ := hw
      exact ⟨⟨rows, rfl, by simp⟩, by simp⟩
    | cons q1 q =>
      obtain ⟨i1, j1⟩ := q1
      simp only [walk] at hw
      split at hw
      · split at hw
        · cases hw
        · rename_i row1 h1
          split at hw
          · rename_i sz1 rows1 h2
            have hold : ∃ row2, rows[i1]? = some row2 ∧ row2[j1]? = some (.lst sz1 rows1) ∧ ¬ (i1 = i ∧ j1 = j) := by
              by_cases e3 : i = i1
              · subst e3
                rw [List.getElem?_set_self hil] at h1
                cases h1
                by_cases e4 : j = j1
                · subst e4
                  rw [List.getElem?_set_self hj] at h2
                  cases h2
                · rw [List.getElem?_set_ne e4] at h2
                  exact ⟨row, hi, h2, fun e => e4 e.2.symm⟩
              · rw [List.getElem?_set_ne e3] at h1
                exact ⟨row1, h1, h2, fun e => e3 e.1.symm⟩
            obtain ⟨row2, h5, h6, h7⟩ := hold
            refine ⟨⟨rowsq, by simp only [walk, h5, h6]; exact hw, rfl⟩, fun hpre => h7 ?_⟩
            simpa [eq_comm] using hpre
          · cases hw
      · cases hw
  | cons q0 p ih =>
    obtain ⟨i0, j0⟩ := q0
    simp only [resR] at hp
    split at hp
    · cases hp
    · rename_i row1 h1
      split at hp
      · rename_i sz1 rows1 h2
        have hil : i0 < rows.length := (List.getElem?_eq_some_iff.1 h1).1
        have hjl : j0 < row1.length := (List.getElem?_eq_some_iff.1 h2).1
        simp only [updR, h1, h2] at hw
        cases q with
        | nil =>
          simp only [walk, Option.some.injEq, Prod.mk.injEq] at hw
          obtain ⟨rfl, rfl, rfl⟩ := hw
          exact ⟨⟨rows, rfl, by simp⟩, by simp⟩
        | cons q1 q =>
          obtain ⟨i1, j1⟩ := q1
          simp only [walk] at hw
          split at hw
          · rename_i ad n c
            by_cases e1 : i1 = i0 ∧ j1 = j0
            · obtain ⟨rfl, rfl⟩ := e1
              rw [List.getElem?_set_self hil] at hw
              simp only at hw
              rw [List.getElem?_set_self hjl] at hw
              simp only at hw
              split at hw
              · rename_i v1 h3
                obtain ⟨⟨rowsq', h4, h5⟩, h6⟩ := ih hp hw
                exact ⟨⟨rowsq', by simp only [walk, h1, h2, h3]; exact h4, h5⟩, fun hh => h6 (by simpa using hh)⟩
              · cases hw
            · split at hw
              · cases hw
              · rename_i row3 k1
                split at hw
                · rename_i sz3 rows3 k2
                  have hold : ∃ row2, rows[i1]? = some row2 ∧ row2[j1]? = some (.lst sz3 rows3) := by
                    by_cases e3 : i0 = i1
                    · subst e3
                      have e4 : j0 ≠ j1 := fun e4 => e1 ⟨rfl, e4.symm⟩
                      rw [List.getElem?_set_self hil] at k1
                      cases k1
                      rw [List.getElem?_set_ne e4] at k2
                      exact ⟨row1, h1, k2⟩
                    · rw [List.getElem?_set_ne e3] at k1
                      exact ⟨row3, k1, k2⟩
                  obtain ⟨row2, h5, h6⟩ := hold
                  refine ⟨⟨rowsq, by simp only [walk, h5, h6]; exact hw, rfl⟩, fun hpre => e1 ?_⟩
                  simp only [List.cons_append, List.cons_prefix_cons, Prod.mk.injEq] at hpre
                  exact ⟨hpre.1.1.symm, hpre.1.2.symm⟩
                · cases hw
          · cases hw
      · cases hp

/-- less is there than was: what is still there is as it was -/
structure Less (w : World) (h : Heap) (g : Gh) (h' : Heap) (g' : Gh) : Prop where
  back : ∀ r q v sz rows', hwalk w h' g' r q = some (v, sz, rows') → ∃ rows, hwalk w h g r q = some (v, sz, rows) ∧ rows.length = rows'.length
  ro : ∀ r x, h[r]?.join = some x → x.ro = true → (∃ x', h'[r]?.join = some x' ∧ x'.ro = true) ∧ ∀ q v sz rows, hwalk w h g r q = some (v, sz, rows) → ∃ rows', hwalk w h' g' r q = some (v, sz, rows') ∧ rows'.length = rows.length
  flags : ∀ r x', h'[r]?.join = some x' → ∃ x, h[r]?.join = some x ∧ x.ro = x'.ro ∧ x.virt = x'.virt ∧ x.box = x'.box ∧ ∀ k, g'.F r k → g.F r k

theorem Less.refl {w : World} {h : Heap} {g : Gh} : Less w h g h g := ⟨fun _ _ _ _ rows h => ⟨rows, h, rfl⟩, fun _ x hx hr => ⟨⟨x, hx, hr⟩, fun _ _ _ rows h => ⟨rows, h, rfl⟩⟩, fun _ x hx => ⟨x, hx, rfl, rfl, rfl, fun _ h => h⟩⟩
theorem Less.trans {w : World} {h1 h2 h3 : Heap} {g1 g2 g3 : Gh} (A : Less w h1 g1 h2 g2) (B : Less w h2 g2 h3 g3) : Less w h1 g1 h3 g3 := by
  refine ⟨fun r q v sz rows' hh => ?_, fun r x hx hr => ?_, fun r x hx => ?_⟩
  · obtain ⟨r2, e1, e2⟩ := B.back _ _ _ _ _ hh
    obtain ⟨r1, e3, e4⟩ := A.back _ _ _ _ _ e1
    exact ⟨r1, e3, e4.trans e2⟩
  · obtain ⟨⟨x2, a1, a2⟩, a3⟩ := A.ro r x hx hr
    obtain ⟨b1, b3⟩ := B.ro r x2 a1 a2
    refine ⟨b1, fun q v sz rows hh => ?_⟩
    obtain ⟨r2, e1, e2⟩ := a3 _ _ _ _ hh
    obtain ⟨r3, e3, e4⟩ := b3 _ _ _ _ e1
    exact ⟨r3, e3, e4.trans e2⟩
  · obtain ⟨x2, a1, a2, a3, a4, a5⟩ := B.flags r x hx
    obtain ⟨x1, b1, b2, b3, b4, b5⟩ := A.flags r x2 a1
    exact ⟨x1, b1, b2.trans a2, b3.trans a3, b4.trans a4, fun k hk => b5 k (a5 k hk)⟩

/-- a name that may have gone stale -/
def Named (w : World) (h : Heap) (g : Gh) (a : AV) : Prop := match a with
  | .ref r p => ∃ y, hwalk w h g r p = some y
  | .sub r p _ _ => ∃ y, hwalk w h g r p = some y
  | .ptr r p _ _ => ∃ y, hwalk w h g r p = some y
  | .fn _ _ => False
  | .agg _ => False
  | .tup _ => False
  | _ => True
def WR (w : World) (h : Heap) (g : Gh) (v : Value) (a : AV) : Prop := Named w h g a → VR w h g v a
theorem VR.weak {w : World} {h : Heap} {g : Gh} {v : Value} {a : AV} (H : VR w h g v a) : WR w h g v a := fun _ => H
theorem Less.WR {w : World} {h h' : Heap} {g g' : Gh} (L : Less w h g h' g') {v : Value} {a : AV} (H : WR w h g v a) : WR w h' g' v a := by
  intro hn
  cases a <;> simp only [Named] at hn
  case ref r p =>
    obtain ⟨⟨v', sz, rows'⟩, hn⟩ := hn
    obtain ⟨rows, h1, h2⟩ := L.back _ _ _ _ _ hn
    cases H ⟨_, h1⟩ with
    | ref h3 => rw [h3] at h1; cases h1; exact .ref hn
  case sub r p off len =>
    obtain ⟨⟨v', sz, rows'⟩, hn⟩ := hn
    obtain ⟨rows, h1, h2⟩ := L.back _ _ _ _ _ hn
    cases H ⟨_, h1⟩ with
    | sub h3 h4 h5 => rw [h3] at h1; cases h1; exact .sub hn (by rw [← h2]; exact h4) h5
  case ptr r p i j =>
    obtain ⟨⟨v', sz, rows'⟩, hn⟩ := hn
    obtain ⟨rows, h1, h2⟩ := L.back _ _ _ _ _ hn
    cases H ⟨_, h1⟩ with
    | ptr h3 => rw [h3] at h1; cases h1; exact .ptr hn
  all_goals
    have := H trivial
    cases this <;> constructor

end Go.Abs

/- Soundness 15: taking, root by root. -/
namespace Go.Abs

def vwalk (w : World) (G : List Value) (rows : Rows) : Path → Option (Value × Nat × Rows)
  | [] => none
  | (i, j) :: p => match rows[i]? with
    | none => none
    | some row => match row[j]? with
      | some (.lst sz rows) => match i, G[j]? with
        | 0, some v => walk w v sz rows p
        | _, _ => none
      | _ => none
theorem hwalk_eq {w : World} {h : Heap} {g : Gh} {r : Nat} {x : Root} (hx : h[r]?.join = some x) (p : Path) :
    hwalk w h g r p = match x.virt with | false => walk w (g.ρ r) x.sz x.rows p | true => vwalk w (g.G r) x.rows p := by
  unfold hwalk
  simp only [hx]
  cases x.virt with
  | false => rfl
  | true => cases p with
    | nil => rfl
    | cons a p => rfl
theorem vwalk_upd {w : World} {G : List Value} {sz : Nat} {rows : Rows} {p : Path} {sz' : Nat} {rows' : Rows} {i j : Nat} {row : List AV}
    (hp : resR p sz rows = some (sz', rows')) (hi : rows'[i]? = some row) (hj : j < row.length) {q : Path} {vq : Value} {szq : Nat} {rowsq : Rows}
    (hw : vwalk w G rows q = some (vq, szq, rowsq)) (hn : ¬ (p ++ [(i, j)] <+: q)) :
    ∃ rowsq', vwalk w G (updR p rows (rows'.set i (row.set j .undef))) q = some (vq, szq, rowsq') ∧ rowsq'.length = rowsq.length := by
  cases q with
  | nil => simp [vwalk] at hw
  | cons q1 q =>
  obtain ⟨i1, j1⟩ := q1
  simp only [vwalk] at hw
  split at hw
  · cases hw
  rename_i row1 h1
  split at hw
  · rename_i sz1 rows1 h2
    split at hw
    · rename_i v1 h3
      cases p with
      | nil =>
        simp only [resR, Option.some.injEq, Prod.mk.injEq] at hp
        obtain ⟨rfl, rfl⟩ := hp
        have hil : i < rows.length := (List.getElem?_eq_some_iff.1 hi).1
        have e1 : ¬ (0 = i ∧ j1 = j) := fun e => hn (by obtain ⟨rfl, rfl⟩ := e; simp)
        have hnew : ∃ row2, (rows.set i (row.set j .undef))[0]? = some row2 ∧ row2[j1]? = some (.lst sz1 rows1) := by
          by_cases e3 : i = 0
          · subst e3
            have e4 : j ≠ j1 := fun e4 => e1 ⟨rfl, e4.symm⟩
            rw [hi] at h1
            cases h1
            exact ⟨_, List.getElem?_set_self hil, by rw [List.getElem?_set_ne e4]; exact h2⟩
          · exact ⟨row1, by rw [List.getElem?_set_ne e3]; exact h1, h2⟩
        obtain ⟨row2, h5, h6⟩ := hnew
        exact ⟨rowsq, by simp only [vwalk, updR, h5, h6, h3]; exact hw, rfl⟩
      | cons q0 p =>
        obtain ⟨i0, j0⟩ := q0
        simp only [resR] at hp
        split at hp
        · cases hp
        rename_i row3 k1
        split at hp
        · rename_i sz3 rows3 k2
          have hil : i0 < rows.length := (List.getElem?_eq_some_iff.1 k1).1
          have hjl : j0 < row3.length := (List.getElem?_eq_some_iff.1 k2).1
          by_cases e1 : 0 = i0 ∧ j1 = j0
          · obtain ⟨rfl, rfl⟩ := e1
            rw [h1] at k1
            cases k1
            rw [h2] at k2
            cases k2
            obtain ⟨rowsq', h4, h5⟩ := walk_upd (v' := default) (a := .undef) hp hi hj hw (fun hh => hn (by simpa using hh))
            refine ⟨rowsq', ?_, h5⟩
            simp only [vwalk, updR, h1, h2, List.getElem?_set_self hil, List.getElem?_set_self hjl, h3]
            exact h4
          · have hnew : ∃ row2, (rows.set i0 (row3.set j0 (.lst sz3 (updR p rows3 (rows'.set i (row.set j .undef))))))[0]? = some row2 ∧ row2[j1]? = some (.lst sz1 rows1) := by
              by_cases e3 : i0 = 0
              · subst e3
                have e4 : j0 ≠ j1 := fun e4 => e1 ⟨rfl, e4.symm⟩
                rw [h1] at k1
                cases k1
                exact ⟨_, List.getElem?_set_self hil, by rw [List.getElem?_set_ne e4]; exact h2⟩
              · exact ⟨row1, by rw [List.getElem?_set_ne e3]; exact h1, h2⟩
            obtain ⟨row2, h5, h6⟩ := hnew
            exact ⟨rowsq, by simp only [vwalk, updR, k1, k2, h5, h6, h3]; exact hw, rfl⟩
        · cases hp
    · cases hw
  · cases hw
theorem vwalk_back {w : World} {G : List Value} {sz : Nat} {rows : Rows} {p : Path} {sz' : Nat} {rows' : Rows} {i j : Nat} {row : List AV}
    (hp : resR p sz rows = some (sz', rows')) (hi : rows'[i]? = some row) (hj : j < row.length) {q : Path} {vq : Value} {szq : Nat} {rowsq : Rows}
    (hw : vwalk w G (updR p rows (rows'.set i (row.set j .undef))) q = some (vq, szq, rowsq)) :
    ∃ rowsq', vwalk w G rows q = some (vq, szq, rowsq') ∧ rowsq'.length = rowsq.length := by
  cases q with
  | nil => simp [vwalk] at hw
  | cons q1 q =>
  obtain ⟨i1, j1⟩ := q1
  simp only [vwalk] at hw
  split at hw
  · cases hw
  rename_i row1 h1
  split at hw
  · rename_i sz1 rows1 h2
    split at hw
    · rename_i v1 h3
      cases p with
      | nil =>
        simp only [resR, Option.some.injEq, Prod.mk.injEq] at hp
        obtain ⟨rfl, rfl⟩ := hp
        have hil : i < rows.length := (List.getElem?_eq_some_iff.1 hi).1
        simp only [updR] at h1
        have hold : ∃ row2, rows[0]? = some row2 ∧ row2[j1]? = some (.lst sz1 rows1) := by
          by_cases e3 : i = 0
          · subst e3
            rw [List.getElem?_set_self hil] at h1
            cases h1
            by_cases e4 : j = j1
            · subst e4
              rw [List.getElem?_set_self hj] at h2
              cases h2
            · rw [List.getElem?_set_ne e4] at h2
              exact ⟨row, hi, h2⟩
          · rw [List.getElem?_set_ne e3] at h1
            exact ⟨row1, h1, h2⟩
        obtain ⟨row2, h5, h6⟩ := hold
        exact ⟨rowsq, by simp only [vwalk, h5, h6, h3]; exact hw, rfl⟩
      | cons q0 p =>
        obtain ⟨i0, j0⟩ := q0
        simp only [resR] at hp
        split at hp
        · cases hp
        rename_i row3 k1
        split at hp
        · rename_i sz3 rows3 k2
          have hil : i0 < rows.length := (List.getElem?_eq_some_iff.1 k1).1
          have hjl : j0 < row3.length := (List.getElem?_eq_some_iff.1 k2).1
          simp only [updR, k1, k2] at h1
          by_cases e1 : 0 = i0 ∧ j1 = j0
          · obtain ⟨rfl, rfl⟩ := e1
            rw [List.getElem?_set_self hil] at h1
            cases h1
            rw [List.getElem?_set_self hjl] at h2
            cases h2
            obtain ⟨⟨rowsq', h4, h5⟩, _⟩ := walk_back hp hi hj hw
            exact ⟨rowsq', by simp only [vwalk, k1, k2, h3]; exact h4, h5⟩
          · have hold : ∃ row2, rows[0]? = some row2 ∧ row2[j1]? = some (.lst sz1 rows1) := by
              by_cases e3 : i0 = 0
              · subst e3
                have e4 : j0 ≠ j1 := fun e4 => e1 ⟨rfl, e4.symm⟩
                rw [List.getElem?_set_self hil] at h1
                cases h1
                rw [List.getElem?_set_ne e4] at h2
                exact ⟨row3, k1, h2⟩
              · rw [List.getElem?_set_ne e3] at h1
                exact ⟨row1, h1, h2⟩
            obtain ⟨row2, h5, h6⟩ := hold
            exact ⟨rowsq, by simp only [vwalk, h5, h6, h3]; exact hw, rfl⟩
        · cases hp
    · cases hw
  · cases hw

def gCut (g : Gh) (r : Nat) (S2 : BS) : Gh := ⟨g.ρ, g.G, fun r' => if r' = r then (fun k => g.F r k ∧ ¬ S2 k) else g.F r'⟩
theorem hwalk_gCut {w : World} {h : Heap} {g : Gh} {r : Nat} {S2 : BS} (r' : Nat) (q : Path) : hwalk w h (gCut g r S2) r' q = hwalk w h g r' q := rfl
theorem hwalk_look {w : World} {h h' : Heap} {g : Gh} {r : Nat} (e : h'[r]?.join = h[r]?.join) (q : Path) : hwalk w h' g r q = hwalk w h g r q := by
  unfold hwalk
  rw [e]

section
variable {w : World} {wr : Wrs} {h : Heap} {g : Gh} {P : Nat → Path → Prop} {r : Nat} {x : Root} {p : Path} {sz : Nat} {rows : Rows} {i j : Nat} {row : List AV} {szt : Nat} {t : Rows}

theorem pull_walks (hx : h[r]?.join = some x) (hp : resR p x.sz x.rows = some (sz, rows)) (hi : rows[i]? = some row) (hj : row[j]? = some (.lst szt t)) (hthru : ∀ q, P r q → ¬ (p ++ [(i, j)] <+: q)) (S2 : BS) :
    Keeps P w h g w (upd h r x p (rows.set i (row.set j .undef))) (gCut g r S2) ∧
    ∀ r' q v s t', hwalk w (upd h r x p (rows.set i (row.set j .undef))) (gCut g r S2) r' q = some (v, s, t') → ∃ t, hwalk w h g r' q = some (v, s, t) ∧ t.length = t'.length := by
  have hjl : j < row.length := (List.getElem?_eq_some_iff.1 hj).1
  have hnew : (upd h r x p (rows.set i (row.set j .undef)))[r]?.join = some { x with rows := updR p x.rows (rows.set i (row.set j .undef)) } := by rw [upd_get, if_pos rfl]
  constructor
  · intro r' q v s t0 hP hq
    rw [hwalk_gCut]
    by_cases e : r' = r
    · subst e
      rw [hwalk_eq hx] at hq
      rw [hwalk_eq hnew]
      cases hv : x.virt with
      | false => simp only [hv] at hq ⊢; exact walk_upd (v' := default) hp hi hjl hq (hthru q hP)
      | true => simp only [hv] at hq ⊢; exact vwalk_upd hp hi hjl hq (hthru q hP)
    · exact ⟨t0, (hwalk_look (h := h) (by rw [upd_get, if_neg e]) q).trans hq, rfl⟩
  · intro r' q v s t0 hq
    rw [hwalk_gCut] at hq
    by_cases e : r' = r
    · subst e
      rw [hwalk_eq hnew] at hq
      rw [hwalk_eq hx]
      cases hv : x.virt with
      | false => simp only [hv] at hq ⊢; exact (walk_back hp hi hjl hq).1
      | true => simp only [hv] at hq ⊢; exact vwalk_back hp hi hjl hq
    · exact ⟨t0, (hwalk_look (h := h) (h' := upd h r x p (rows.set i (row.set j .undef))) (by rw [upd_get, if_neg e]) q).symm.trans hq, rfl⟩

/-- a list is taken: what is left, and what was taken -/
theorem Rel.pull (R : Rel w wr h g) (hP : HRefs P h) (hx : h[r]?.join = some x) (hro : x.ro = false) (hp : resR p x.sz x.rows = some (sz, rows)) (hi : rows[i]? = some row) (hj : row[j]? = some (.lst szt t))
    (hthru : ∀ q, P r q → ¬ (p ++ [(i, j)] <+: q)) :
    ∃ S2 vt, hwalk w h g r (p ++ [(i, j)]) = some (vt, szt, t) ∧ TR w true (Kr w wr false) S2 vt (.lst szt t) ∧ (∀ k, S2 k → g.F r k) ∧
      Rel w wr (upd h r x p (rows.set i (row.set j .undef))) (gCut g r S2) := by
  have hR := R.root r x hx
  have hjl : j < row.length := (List.getElem?_eq_some_iff.1 hj).1
  have hFr : ∀ S2, (gCut g r S2).F r = fun k => g.F r k ∧ ¬ S2 k := fun S2 => by simp [gCut]
  -- the frame
  have frame : ∀ S2 : BS, (Keeps P w h g w (upd h r x p (rows.set i (row.set j .undef))) (gCut g r S2) → RootR w wr (upd h r x p (rows.set i (row.set j .undef))) (gCut g r S2) r { x with rows := updR p x.rows (rows.set i (row.set j .undef)) }) →
      Rel w wr (upd h r x p (rows.set i (row.set j .undef))) (gCut g r S2) := by
    intro S2 hX
    have keeps := (pull_walks (w := w) (g := g) (P := P) hx hp hi hj hthru S2).1
    refine R.change (r := r) hP keeps (upd_get _ _ _ _ _) (Nat.le_refl _) (fun _ _ _ _ _ _ => rfl) (fun r' e => ⟨rfl, rfl, by simp [gCut, e]⟩) (fun x' hx' => by cases hx'; exact hX keeps)
      (fun x' hx' r' y k hr hy hro' hF1 hF2 => ?_) (fun x' _ k hF => ?_)
    · rw [hFr] at hF1
      exact R.sep r x r' y k hx hy (Ne.symm hr) hro hF1.1 hF2
    · rw [hFr] at hF
      exact R.low r x k hx hF.1
  unfold RootR at hR
  cases hvt : x.virt with
  | false =>
    simp only [hvt] at hR
    cases hbx : x.box with
    | false =>
      simp only [hbx, hro, Bool.not_false] at hR
      obtain ⟨S2, vt, k1, k2, k3, k4⟩ := hR.take hp hi hj
      refine ⟨S2, vt, by rw [hwalk_eq hx]; simp only [hvt]; exact k2, k3, k1, frame S2 fun _ => ?_⟩
      unfold RootR
      simp only [hvt, hbx, hro, Bool.not_false, hFr]
      exact k4
    | true =>
      simp only [hbx] at hR
      obtain ⟨b, o, cs, e0, fz, f, h1, h2, h3, h4, h5, h6, h7, h8, h9⟩ := hR
      obtain ⟨d1, d2⟩ := h8 hro
      obtain ⟨i0, j0, row0, sz0, rows0, a0, p2, t1, t2, t3, t4, t5, _, t6⟩ := top_cut hp hi hj
      have hc0 := h9 i0 j0 row0 _ t1 t2
      simp only [CellB, isX, hro, Bool.not_false] at hc0
      obtain ⟨S2, vt, k1, k2, k3, k4⟩ := t6 _ _ _ _ hc0
      have hil : i0 < x.rows.length := (List.getElem?_eq_some_iff.1 t1).1
      have hjl0 : j0 < row0.length := (List.getElem?_eq_some_iff.1 t2).1
      have hjs : j0 < x.sz := by rw [← h4 row0 (mem_get t1)]; exact hjl0
      have hq : o + i0 * x.sz + j0 < cs.size := Nat.lt_of_lt_of_le (idx_lt hil (Nat.le_refl _) hjs) h3
      have e1 : cs[o + i0 * x.sz + j0]? = some (cs.getD (o + i0 * x.sz + j0) default) := by simp [Array.getD_eq_getD_getElem?, hq]
      refine ⟨S2, vt, ?_, k3, fun k hk => h7 _ _ _ (k1 k hk), frame S2 fun keeps => ?_⟩
      · rw [hwalk_eq hx, t4, h1]
        simp only [hvt]
        rw [walk_box h2]
        simp only [t1, t2, e1]
        exact k2
      · unfold RootR
        simp only [hvt, hbx, t3]
        refine ⟨b, o, cs, e0, fz, fun i' j' => if i' = i0 ∧ j' = j0 then (fun k => f i0 j0 k ∧ ¬ S2 k) else f i' j', by simp only [gCut, List.length_set]; exact h1, h2, by simp only [List.length_set]; exact h3, set_rowlen t1 h4, by simp only [List.length_set]; exact h5, ?_, ?_, ?_, ?_⟩
        · rw [hFr]; exact ⟨h6, fun hk => d1 _ _ (k1 _ hk)⟩
        · intro i' j' k hk
          rw [hFr]
          split at hk
          · exact ⟨h7 _ _ _ hk.1, hk.2⟩
          · rename_i hne
            exact ⟨h7 _ _ _ hk, fun hk2 => hne (d2 _ _ _ _ k hk (k1 k hk2))⟩
        · intro _
          refine ⟨fun i' j' hk => ?_, fun i1 j1 i2 j2 k q1 q2 => ?_⟩
          · dsimp only at hk
            split at hk
            · exact d1 _ _ hk.1
            · exact d1 _ _ hk
          · dsimp only at q1 q2
            split at q1 <;> split at q2
            · rename_i a b; exact ⟨a.1.trans b.1.symm, a.2.trans b.2.symm⟩
            · rename_i a1 a2
              have := d2 _ _ _ _ k q1.1 q2; exact absurd ⟨this.1.symm, this.2.symm⟩ a2
            · rename_i a1 a2
              exact absurd (d2 _ _ _ _ k q1 q2.1) a1
            · exact d2 _ _ _ _ k q1 q2
        · intro i' j' row' a' hr ha
          simp only [hro]
          rcases set_cases t1 hjl0 hr ha with ⟨rfl, rfl, rfl⟩ | ⟨hn, row1, hr0, ha0⟩
          · simp only [and_self, if_true, CellB, t5, Bool.not_false]
            exact k4
          · simp only [if_neg hn]
            have hc := h9 i' j' row1 a' hr0 ha0
            unfold CellB at hc ⊢
            cases hx' : isX a' with
            | true =>
              simp only [hx'] at hc
              exact VR.keep keeps hc (hP r x row1 a' hx hbx (mem_get hr0) (mem_get ha0) hx')
            | false =>
              simp only [hx', hro] at hc
              exact hc
  | true =>
    simp only [hvt] at hR
    obtain ⟨vrow, f, h1, h2, h3, h4, h5⟩ := hR
    obtain ⟨i0, j0, row0, sz0, rows0, a0, p2, t1, t2, t3, t4, t5, _, t6⟩ := top_cut hp hi hj
    have hi0 : i0 = 0 ∧ row0 = vrow := by
      rw [h1] at t1
      cases i0 with
      | zero => simp at t1; exact ⟨rfl, t1.symm⟩
      | succ n => simp at t1
    obtain ⟨rfl, rfl⟩ := hi0
    have hjl0 : j0 < row0.length := (List.getElem?_eq_some_iff.1 t2).1
    have hG : (g.G r)[j0]? = some ((g.G r)[j0]'(by rw [h2]; exact hjl0)) := List.getElem?_eq_getElem _
    have hc0 := h5 j0 _ _ t2 hG
    simp only [hro, Bool.not_false] at hc0
    obtain ⟨S2, vt, k1, k2, k3, k4⟩ := t6 _ _ _ _ hc0
    have d2 := h4 hro
    refine ⟨S2, vt, ?_, k3, fun k hk => h3 _ _ (k1 k hk), frame S2 fun _ => ?_⟩
    · rw [hwalk_eq hx, t4]
      simp only [hvt, vwalk, t1, t2, hG]
      exact k2
    · unfold RootR
      simp only [hvt, t3]
      refine ⟨row0.set j0 a0, fun j' => if j' = j0 then (fun k => f j0 k ∧ ¬ S2 k) else f j', by rw [h1]; rfl, by simp only [gCut, List.length_set]; exact h2, ?_, ?_, ?_⟩
      · intro j' k hk
        rw [hFr]
        split at hk
        · exact ⟨h3 _ _ hk.1, hk.2⟩
        · rename_i hne
          exact ⟨h3 _ _ hk, fun hk2 => hne (d2 _ _ k hk (k1 k hk2))⟩
      · intro _ j1 j2 k q1 q2
        split at q1 <;> split at q2
        · rename_i a b; exact a.trans b.symm
        · rename_i a1 a2
          exact absurd (d2 _ _ k q1.1 q2).symm a2
        · rename_i a1 a2
          exact absurd (d2 _ _ k q1 q2.1) a1
        · exact d2 _ _ k q1 q2
      · intro j' a v ha hv
        simp only [hro]
        by_cases e : j' = j0
        · subst e
          rw [List.getElem?_set_self hjl0] at ha
          cases ha
          have : (gCut g r S2).G r = g.G r := rfl
          rw [this, hG] at hv
          cases hv
          simp only [if_true, Bool.not_false]
          exact k4
        · rw [List.getElem?_set_ne (Ne.symm e)] at ha
          rw [if_neg e]
          have := h5 j' a v ha hv
          rw [hro] at this
          exact this
end

end Go.Abs

/- Soundness 16: takeL. -/
namespace Go.Abs

theorem kHp_put (r : Nat) (c : List Nat) (h : Heap) (n : Nat) (v : Option Root) : kHp r c (put h n v) = put (kHp r c h) n (v.map (kRt r c)) := by
  induction n generalizing h with
  | zero => cases h <;> rfl
  | succ n ih => cases h with
    | nil => simp only [put, kHp, List.map_nil, List.map_cons, List.cons.injEq]; exact ⟨rfl, ih []⟩
    | cons a l => simp only [put, kHp, List.map_cons, List.cons.injEq, true_and]; exact ih l
def kRows (r : Nat) (c : List Nat) (rows : Rows) : Rows := rows.map (·.map (kV1 r c))
theorem kRows_get (r : Nat) (c : List Nat) {rows : Rows} {i : Nat} {row : List AV} (h : rows[i]? = some row) : (kRows r c rows)[i]? = some (row.map (kV1 r c)) := by simp [kRows, h]
theorem kRow_lst (r : Nat) (c : List Nat) {row : List AV} {j sz : Nat} {rows : Rows} (h : row[j]? = some (.lst sz rows)) : (row.map (kV1 r c))[j]? = some (.lst sz rows) := by simp [h, kV1_lst]
/-- weakening and taking -/
theorem kRows_upd (r : Nat) (c : List Nat) {p : Path} {sz : Nat} {rows : Rows} {sz' : Nat} {rows' : Rows} {i j : Nat} {row : List AV} {szt : Nat} {t : Rows}
    (hp : resR p sz rows = some (sz', rows')) (hi : rows'[i]? = some row) (hj : row[j]? = some (.lst szt t)) :
    ∃ rows1 row1, resR p sz (kRows r c rows) = some (sz', rows1) ∧ rows1[i]? = some row1 ∧ row1[j]? = some (.lst szt t) ∧
      kRows r c (updR p rows (rows'.set i (row.set j .undef))) = updR p (kRows r c rows) (rows1.set i (row1.set j .undef)) := by
  cases p with
  | nil =>
    simp only [resR, Option.some.injEq, Prod.mk.injEq] at hp
    obtain ⟨rfl, rfl⟩ := hp
    refine ⟨kRows r c rows, row.map (kV1 r c), rfl, kRows_get r c hi, kRow_lst r c hj, ?_⟩
    simp only [updR, kRows, List.map_set]
    rfl
  | cons q p =>
    obtain ⟨i0, j0⟩ := q
    simp only [resR] at hp
    split at hp
    · cases hp
    rename_i row0 h1
    split at hp
    · rename_i sz0 rows0 h2
      refine ⟨rows', row, ?_, hi, hj, ?_⟩
      · simp only [resR, kRows_get r c h1, kRow_lst r c h2]
        exact hp
      · simp only [updR, h1, h2, kRows_get r c h1, kRow_lst r c h2]
        simp only [kRows, List.map_set, kV1_lst]
    · cases hp
theorem walk_kill_back {w : World} (r : Nat) (c : List Nat) {v : Value} {sz : Nat} {rows : Rows} {p : Path} {v' : Value} {sz' : Nat} {rows' : Rows} (h : walk w v sz (kRows r c rows) p = some (v', sz', rows')) :
    ∃ rows'', walk w v sz rows p = some (v', sz', rows'') ∧ rows''.length = rows'.length := by
  cases p with
  | nil =>
    simp only [walk, Option.some.injEq, Prod.mk.injEq] at h
    obtain ⟨rfl, rfl, rfl⟩ := h
    exact ⟨_, rfl, by simp [kRows]⟩
  | cons q p =>
    obtain ⟨i, j⟩ := q
    simp only [walk] at h
    split at h
    · split at h
      · cases h
      · rename_i row h1
        split at h
        · rename_i sz1 rows1 h2
          simp only [kRows, List.getElem?_map, Option.map_eq_some_iff] at h1
          obtain ⟨row0, h3, rfl⟩ := h1
          simp only [List.getElem?_map, Option.map_eq_some_iff] at h2
          obtain ⟨a, h4, h5⟩ := h2
          have h6 : a = .lst sz1 rows1 := by
            cases a <;> simp only [kV1, kV0] at h5 <;> first | exact h5 | (split at h5 <;> first | cases h5 | (split at h5 <;> cases h5)) | cases h5
          subst h6
          exact ⟨rows', by simp only [walk, h3, h4]; exact h, rfl⟩
        · cases h
    · cases h
theorem vwalk_kill_back {w : World} (r : Nat) (c : List Nat) {G : List Value} {rows : Rows} {p : Path} {v' : Value} {sz' : Nat} {rows' : Rows} (h : vwalk w G (kRows r c rows) p = some (v', sz', rows')) :
    vwalk w G rows p = some (v', sz', rows') := by
  cases p with
  | nil => simp [vwalk] at h
  | cons q p =>
    obtain ⟨i, j⟩ := q
    simp only [vwalk] at h
    split at h
    · cases h
    · rename_i row h1
      split at h
      · rename_i sz1 rows1 h2
        simp only [kRows, List.getElem?_map, Option.map_eq_some_iff] at h1
        obtain ⟨row0, h3, rfl⟩ := h1
        simp only [List.getElem?_map, Option.map_eq_some_iff] at h2
        obtain ⟨a, h4, h5⟩ := h2
        have h6 : a = .lst sz1 rows1 := by
          cases a <;> simp only [kV1, kV0] at h5 <;> first | exact h5 | (split at h5 <;> first | cases h5 | (split at h5 <;> cases h5)) | cases h5
        subst h6
        simp only [vwalk, h3, h4]
        exact h
      · cases h
theorem kRt_rows (r : Nat) (c : List Nat) (x : Root) : kRt r c x = { x with rows := if x.box then kRows r c x.rows else x.rows } := by
  unfold kRt
  cases x with
  | mk ro virt box sz rows => cases box <;> rfl
theorem Less.kill {w : World} {h : Heap} {g : Gh} (r : Nat) (c : List Nat) : Less w h g (kHp r c h) g := by
  refine ⟨fun r' q v sz rows' hh => ?_, fun r' x hx hr => ⟨⟨kRt r c x, by rw [kHp_get, hx]; rfl, by rw [(kRt_flags r c x).1]; exact hr⟩, fun q v sz rows hh => kHp_keeps r c r' q v sz rows trivial hh⟩, fun r' x' hx => ?_⟩
  · obtain ⟨x', hx', _⟩ := hwalk_res hh
    rw [kHp_get] at hx'
    cases hx : h[r']?.join with
    | none => rw [hx] at hx'; cases hx'
    | some x =>
      rw [hwalk_eq (x := kRt r c x) (by rw [kHp_get, hx]; rfl)] at hh
      rw [hwalk_eq hx]
      rw [kRt_rows] at hh
      simp only at hh
      cases hb : x.box with
      | false => simp only [hb] at hh; exact ⟨rows', hh, rfl⟩
      | true =>
        simp only [hb, if_true] at hh
        cases hv : x.virt with
        | false => simp only [hv] at hh ⊢; exact walk_kill_back r c hh
        | true => simp only [hv] at hh ⊢; exact ⟨rows', vwalk_kill_back r c hh, rfl⟩
  · rw [kHp_get] at hx
    cases h0 : h[r']?.join with
    | none => rw [h0] at hx; cases hx
    | some x =>
      rw [h0] at hx
      cases hx
      obtain ⟨f1, f2, f3, f4⟩ := kRt_flags r c x
      exact ⟨x, rfl, f1.symm, f2.symm, f3.symm, fun _ h => h⟩

theorem resR_snoc {p : Path} {sz : Nat} {rows : Rows} {sz' : Nat} {rows' : Rows} {i j : Nat} {row : List AV} {szt : Nat} {t : Rows}
    (hp : resR p sz rows = some (sz', rows')) (hi : rows'[i]? = some row) (hj : row[j]? = some (.lst szt t)) : resR (p ++ [(i, j)]) sz rows = some (szt, t) := by
  induction p generalizing sz rows with
  | nil =>
    simp only [resR, Option.some.injEq, Prod.mk.injEq] at hp
    obtain ⟨rfl, rfl⟩ := hp
    simp only [List.nil_append, resR, hi, hj]
  | cons q p ih =>
    obtain ⟨i0, j0⟩ := q
    simp only [resR] at hp
    split at hp
    · cases hp
    rename_i row0 h1
    split at hp
    · rename_i sz1 rows1 h2
      simp only [List.cons_append, resR, h1, h2]
      exact ih hp
    · cases hp

/-- Taking a list: what is in hand then. -/
structure Took (w : World) (wr : Wrs) (ts : List (List Value)) (tm : List Value) (st : St) (g : Gh) (r : Nat) (p : Path) (v : Value) (sz : Nat) (rows : Rows) (S : BS) (st' : St) (g' : Gh) : Prop where
  at_ : hwalk w st.heap g r p = some (v, sz, rows)
  good : Good w wr ts tm st' g'
  tree : TR w true (Kr w wr false) S v (.lst sz rows)
  was : ∃ x, st.heap[r]?.join = some x ∧ x.ro = false ∧ ∀ k, S k → g.F r k
  apart : ∀ k, S k → k < w.heap.size ∧ ∀ r' x', st'.heap[r']?.join = some x' → ¬ g'.F r' k
  less : Less w st.heap g st'.heap g'

theorem takeL_sound {w : World} {wr : Wrs} {ts : List (List Value)} {tm : List Value} {st : St} {g : Gh} {r : Nat} {p : Path} {k : Nat → Rows → St → R} {res : Res}
    (h : takeL st r p k = some res) (G : Good w wr ts tm st g) : ∃ v sz rows S st' g', k sz rows st' = some res ∧ Took w wr ts tm st g r p v sz rows S st' g' := by
  unfold takeL at h
  obtain ⟨x, hx, h⟩ := getH_inv h
  have hx : st.heap[r]?.join = some x := by rw [hx]; rfl
  obtain ⟨ro, virt, box, sz0, rows0⟩ := x
  simp only at h
  cases ro with
  | true => cases h
  | false =>
  simp only at h
  cases p with
  | nil =>
    simp only at h
    cases virt with
    | true => cases h
    | false =>
    cases box with
    | true => cases h
    | false =>
    simp only at h
    have h := setH_inv h
    rw [kill_eq] at h
    have hR := G.rel.root r _ hx
    simp only [RootR, Bool.not_false] at hR
    obtain ⟨G1, hs⟩ := G.kill r []
    have hnt : ∀ r' q, NotThru r [] r' q → r' ≠ r := fun r' q hn e => by subst e; simp [NotThru, thru, pre] at hn
    have hx1 : (kHp r [] st.heap)[r]?.join = some ⟨false, false, false, sz0, rows0⟩ := by rw [kHp_get, hx]; rfl
    have eH : kHp r [] (put st.heap r none) = put (kHp r [] st.heap) r none := kHp_put _ _ _ _ _
    let g' : Gh := ⟨g.ρ, g.G, fun r' => if r' = r then (fun _ => False) else g.F r'⟩
    have keeps : Keeps (NotThru r []) w (kHp r [] st.heap) g w (put (kHp r [] st.heap) r none) g' := by
      intro r' q v s t hP hq
      exact ⟨t, (hwalk_look (h := kHp r [] st.heap) (by rw [put_get, if_neg (hnt _ _ hP)]) q).trans hq, rfl⟩
    have rel : Rel w wr (put (kHp r [] st.heap) r none) g' :=
      G1.rel.change (r := r) (X := none) hs.2.2 keeps (fun r' => put_get _ _ _ _) (Nat.le_refl _) (fun _ _ _ _ _ _ => rfl) (fun r' e => ⟨rfl, rfl, by simp [g', e]⟩) (fun _ h => by cases h) (fun _ h => by cases h) (fun _ h => by cases h)
    have less : Less w (kHp r [] st.heap) g (put (kHp r [] st.heap) r none) g' := by
      refine ⟨fun r' q v s t hq => ?_, fun r' x hx' hr => ?_, fun r' x' hx' => ?_⟩
      · by_cases e : r' = r
        · subst e
          simp [hwalk, put_get] at hq
        · exact ⟨t, (hwalk_look (h := kHp r [] st.heap) (h' := put (kHp r [] st.heap) r none) (by rw [put_get, if_neg e]) q).symm.trans hq, rfl⟩
      · have e : r' ≠ r := fun e => by subst e; rw [hx1] at hx'; cases hx'; cases hr
        exact ⟨⟨x, by rw [put_get, if_neg e]; exact hx', hr⟩, fun q v s t hq => ⟨t, (hwalk_look (h := kHp r [] st.heap) (by rw [put_get, if_neg e]) q).trans hq, rfl⟩⟩
      · rw [put_get] at hx'
        by_cases e : r' = r
        · rw [if_pos e] at hx'; cases hx'
        · rw [if_neg e] at hx'
          exact ⟨x', hx', rfl, rfl, rfl, fun k hk => by simpa [g', e] using hk⟩
    refine ⟨g.ρ r, sz0, rows0, g.F r, _, g', h, by rw [hwalk_eq hx]; rfl, ?_, hR, ⟨_, hx, rfl, fun _ h => h⟩, fun k hk => ⟨G.rel.low r _ k hx hk, fun r' x' hx' hF => ?_⟩, ?_⟩
    · simp only [kSt, eH]
      exact G1.keep hs keeps rel
    · simp only [kSt, eH] at hx'
      rw [put_get] at hx'
      by_cases e : r' = r
      · rw [if_pos e] at hx'; cases hx'
      · rw [if_neg e, kHp_get] at hx'
        cases h0 : st.heap[r']?.join with
        | none => rw [h0] at hx'; cases hx'
        | some x0 =>
          simp only [g', if_neg e] at hF
          exact G.rel.sep r _ r' x0 k hx h0 (Ne.symm e) rfl hk hF
    · simp only [kSt, eH]
      exact (Less.kill r []).trans less
  | cons q0 p0 =>
    simp only at h
    obtain ⟨p', i, j, szt, sz', rows', row, t, ep, hp0, hi, hj, h⟩ := takeR_inv h
    have h := setH_inv h
    rw [cols_eq, kill_eq] at h
    have hp : ∃ sz', resR p' sz0 rows0 = some (sz', rows') := by
      cases p' with
      | nil => simp only [resR, Option.some.injEq, Prod.mk.injEq] at hp0 ⊢; exact ⟨sz0, rfl, hp0.2⟩
      | cons a b => exact ⟨sz', hp0⟩
    obtain ⟨sz', hp⟩ := hp
    rw [ep] at h ⊢
    obtain ⟨c, hc⟩ : ∃ c, c = (p' ++ [(i, j)]).map Prod.snd := ⟨_, rfl⟩
    rw [← hc] at h
    obtain ⟨G1, hs⟩ := G.kill r c
    have hx1 : (kHp r c st.heap)[r]?.join = some (kRt r c ⟨false, virt, box, sz0, rows0⟩) := by rw [kHp_get, hx]; rfl
    have hthru : ∀ q, NotThru r c r q → ¬ (p' ++ [(i, j)] <+: q) := fun q hn => by rw [hc] at hn; exact not_prefix hn
    -- weakening goes through
    have hk : ∃ rows1 row1, resR p' (kRt r c ⟨false, virt, box, sz0, rows0⟩).sz (kRt r c ⟨false, virt, box, sz0, rows0⟩).rows = some (sz', rows1) ∧ rows1[i]? = some row1 ∧ row1[j]? = some (.lst szt t) ∧
        kHp r c (put st.heap r (some ⟨false, virt, box, sz0, updR p' rows0 (rows'.set i (row.set j .undef))⟩)) =
          upd (kHp r c st.heap) r (kRt r c ⟨false, virt, box, sz0, rows0⟩) p' (rows1.set i (row1.set j .undef)) := by
      cases box with
      | false => exact ⟨rows', row, hp, hi, hj, by rw [kHp_put]; rfl⟩
      | true =>
        obtain ⟨rows1, row1, e1, e2, e3, e4⟩ := kRows_upd r c hp hi hj
        refine ⟨rows1, row1, e1, e2, e3, ?_⟩
        rw [kHp_put, upd]
        simp only [Option.map_some, kRt_rows, if_true, e4]
    obtain ⟨rows1, row1, e1, e2, e3, e4⟩ := hk
    have hro1 : (kRt r c ⟨false, virt, box, sz0, rows0⟩).ro = false := (kRt_flags r c _).1
    obtain ⟨S2, vt, k1, k2, k3, k4⟩ := G1.rel.pull hs.2.2 hx1 hro1 e1 e2 e3 hthru
    obtain ⟨w1, w2⟩ := pull_walks (w := w) (g := g) (P := NotThru r c) hx1 e1 e2 e3 hthru S2
    have less : Less w (kHp r c st.heap) g (upd (kHp r c st.heap) r (kRt r c ⟨false, virt, box, sz0, rows0⟩) p' (rows1.set i (row1.set j .undef))) (gCut g r S2) := by
      refine ⟨fun r' q v s t hq => w2 r' q v s t hq, fun r' x hx' hr => ?_, fun r' x' hx' => ?_⟩
      · have e : r' ≠ r := fun e => by subst e; rw [hx1] at hx'; cases hx'; rw [hro1] at hr; cases hr
        exact ⟨⟨x, by rw [upd_get, if_neg e]; exact hx', hr⟩, fun q v s t hq => ⟨t, (hwalk_look (h := kHp r c st.heap) (by rw [upd_get, if_neg e]) q).trans hq, rfl⟩⟩
      · rw [upd_get] at hx'
        by_cases e : r' = r
        · subst e
          rw [if_pos rfl] at hx'
          cases hx'
          exact ⟨_, hx1, rfl, rfl, rfl, fun k hk => by simp only [gCut, if_true] at hk; exact hk.1⟩
        · rw [if_neg e] at hx'
          exact ⟨x', hx', rfl, rfl, rfl, fun k hk => by simpa [gCut, e] using hk⟩
    obtain ⟨rowsB, b1, b2⟩ := (Less.kill (w := w) (h := st.heap) (g := g) r c).back _ _ _ _ _ k1
    -- the rows are the ones that were there
    have hwt : hwalk w st.heap g r (p' ++ [(i, j)]) = some (vt, szt, t) := by
      obtain ⟨x0, y1, y2, _⟩ := hwalk_res b1
      rw [hx] at y1
      cases y1
      have := resR_snoc hp hi hj
      rw [this] at y2
      cases y2
      exact b1
    refine ⟨vt, szt, t, S2, _, gCut g r S2, h, hwt, ?_, k2, ⟨_, hx, rfl, k3⟩, fun k hk => ⟨G.rel.low r _ k hx (k3 k hk), fun r' x' hx' hF => ?_⟩, ?_⟩
    · simp only [kSt, e4]
      exact G1.keep hs w1 k4
    · simp only [kSt, e4] at hx'
      by_cases e : r' = r
      · subst e
        simp only [gCut, if_true] at hF
        exact hF.2 hk
      · rw [upd_get, if_neg e, kHp_get] at hx'
        cases h0 : st.heap[r']?.join with
        | none => rw [h0] at hx'; cases hx'
        | some x0 =>
          simp only [gCut, if_neg e] at hF
          exact G.rel.sep r _ r' x0 k hx h0 (Ne.symm e) rfl (k3 k hk) hF
    · simp only [kSt, e4]
      exact (Less.kill r c).trans less

end Go.Abs

/- Soundness 17: values on their way into memory. -/
namespace Go.Abs

theorem TR.sub {w : World} {own : Bool} {K : CS} {S : BS} {v0 v : Value} {sz off len : Nat} {rows : Rows} (h : TR w own K S v0 (.lst sz rows)) (hl : off + len ≤ rows.length) (hs : SubV v0 off sz len v) :
    TR w own K S v (.lst sz ((rows.drop off).take len)) := by
  rcases hs with ⟨b, o, n, c, c', rfl, rfl, h1, h2⟩ | ⟨rfl, a, rfl⟩
  · have hlen : ((rows.drop off).take len).length = len := by simp; omega
    rcases h.lst_inv with ⟨rfl, a, hv⟩ | ⟨b', o', c2, cs, e, fz, f, hv, hb, hs, hc, hlr, hK, hS, hf, hd, hcell⟩
    · simp only [Value.slice.injEq] at hv
      obtain ⟨_, rfl, rfl⟩ := hv
      obtain rfl : len = 0 := by simp at hl; omega
      obtain rfl : c' = 0 := by omega
      simp only [List.take_zero]
      exact .nil
    · simp only [Value.slice.injEq, Option.some.injEq, Addr.mk.injEq] at hv
      obtain ⟨⟨rfl, rfl, _⟩, rfl, rfl⟩ := hv
      have hm : off * sz + c' * sz ≤ c * sz := by rw [← Nat.add_mul]; exact Nat.mul_le_mul_right _ h2
      by_cases hc0 : c' = 0
      · subst hc0
        obtain rfl : len = 0 := by omega
        simp only [List.take_zero]
        exact .nil
      have hpos : 0 < c' * sz := Nat.mul_pos (by omega) (Nat.pos_of_ne_zero fun e => by have := hK.1; rw [e] at this; simp at this)
      have := TR.lst (w := w) (own := own) (K := K) (S := S) (b := b) (o := o + off * sz) (c := c') (cs := cs) (e := e) (fz := fz) (sz := sz) (rows := (rows.drop off).take len) (fun i j => f (off + i) j) hb (by omega) (by omega)
        (fun row hr => hlr row (List.mem_of_mem_drop (List.mem_of_mem_take hr))) ⟨hpos, fun q q1 q2 => hK.2 q (by omega) (by omega)⟩ hS (fun i j k hk => hf _ _ k hk)
        (fun ho => ⟨fun i j => (hd ho).1 _ j, fun i j i' j' k k1 k2 => by have := (hd ho).2 _ _ _ _ k k1 k2; omega⟩)
        (fun i j row a hr ha => by
          have hi : i < len := by rw [← hlen]; exact (List.getElem?_eq_some_iff.1 hr).1
          rw [List.getElem?_take_of_lt hi, List.getElem?_drop] at hr
          rw [show o + off * sz + i * sz + j = o + (off + i) * sz + j by rw [Nat.add_mul]; omega]
          exact hcell _ j row a hr ha)
      rw [hlen] at this
      exact this
  · simp only [List.take_zero]
    exact .nil

theorem code_inv {h : Heap} {v : AV} {k : Nat → R} {res : Res} {r : Nat} {p : Path} {o l : Nat} (hv : v = .ref r p ∨ v = .sub r p o l) (hh : code h v k = some res) :
    ∃ x, h[r]?.join = some x ∧ ((x.ro = true ∧ k 0 = some res) ∨ (x.ro = false ∧ (k 1 = some res ∨ k 2 = some res))) := by
  rcases hv with rfl | rfl
  all_goals
    simp only [code] at hh
    obtain ⟨x, hx, hh⟩ := getH_inv hh
    obtain ⟨ro, virt, box, sz, rows⟩ := x
    refine ⟨_, by rw [hx]; rfl, ?_⟩
    cases ro with
    | true => exact .inl ⟨rfl, hh⟩
    | false =>
      refine .inr ⟨rfl, ?_⟩
      cases p with
      | nil => exact .inl hh
      | cons a p => cases virt with
        | true => exact .inl hh
        | false => exact .inr hh

/-- a value's name is still good: its root is nobody's own -/
theorem Less.keepRO {w : World} {h h' : Heap} {g g' : Gh} (L : Less w h g h' g') {r : Nat} {x : Root} (hx : h[r]?.join = some x) (hr : x.ro = true) {v : Value} {a : AV} {p : Path} {o l : Nat}
    (ha : a = .ref r p ∨ a = .sub r p o l) (H : VR w h g v a) : VR w h' g' v a := by
  obtain ⟨_, hk⟩ := L.ro r x hx hr
  rcases ha with rfl | rfl
  · cases H with
    | ref h1 => obtain ⟨rows', h2, h3⟩ := hk _ _ _ _ h1; exact .ref h2
  · cases H with
    | sub h1 hl h3 => obtain ⟨rows', h2, h4⟩ := hk _ _ _ _ h1; exact .sub h2 (by rw [h4]; exact hl) h3

theorem TR.one {w : World} {own : Bool} {K : CS} {S : BS} {v : Value} {a : AV} (h : TR w own K S v a) (ha : a ≠ .undef) : v.oneCell' = true := by
  cases h <;> first | rfl | exact absurd rfl ha
theorem Rel.slice_of {w : World} {wr : Wrs} {h : Heap} {g : Gh} (R : Rel w wr h g) {r : Nat} {p : Path} {v : Value} {sz : Nat} {rows : Rows} (hh : hwalk w h g r p = some (v, sz, rows)) :
    ∃ a n c, v = .slice a n c ∧ n = rows.length := by
  obtain ⟨x, hx, hp, hv⟩ := hwalk_res hh
  obtain ⟨v', hw, hc⟩ := R.walks hx hp hv
  rw [hh] at hw
  cases hw
  rcases hc with ⟨rfl, hb⟩ | ⟨S, ht, _⟩
  · have hR := R.root r x hx
    unfold RootR at hR
    cases hvt : x.virt with
    | true => exact absurd rfl (hv hvt)
    | false =>
      simp only [hvt, hb] at hR
      obtain ⟨b, o, cs, e, fz, f, h1, _⟩ := hR
      rw [hwalk_eq hx] at hh
      simp only [hvt, walk, Option.some.injEq, Prod.mk.injEq] at hh
      obtain ⟨rfl, rfl, rfl⟩ := hh
      exact ⟨_, _, _, h1, rfl⟩
  · rcases ht.lst_inv with ⟨rfl, a, rfl⟩ | ⟨b, o, c, cs, e, fz, f, rfl, _⟩
    · exact ⟨_, _, _, rfl, rfl⟩
    · exact ⟨_, _, _, rfl, rfl⟩
theorem SubV.one {v0 v : Value} {off sz len : Nat} (h : SubV v0 off sz len v) : ∃ a c, v = .slice a len c := by
  rcases h with ⟨b, o, n, c, c', rfl, rfl, _⟩ | ⟨rfl, a, rfl⟩
  · exact ⟨_, _, rfl⟩
  · exact ⟨_, _, rfl⟩
def oneA (a : AV) : Bool := match a with
  | .agg _ | .tup _ | .undef | .pv _ => false
  | _ => true
theorem Rel.one_of {w : World} {wr : Wrs} {h : Heap} {g : Gh} (R : Rel w wr h g) {u : Value} {a : AV} (H : VR w h g u a) (ha : oneA a = true) : u.oneCell' = true := by
  cases H with
  | ref h1 => obtain ⟨_, _, _, rfl, _⟩ := R.slice_of h1; rfl
  | sub h1 hl h2 => obtain ⟨_, _, rfl⟩ := h2.one; rfl
  | undef => simp [oneA] at ha
  | agg => simp [oneA] at ha
  | tup => simp [oneA] at ha
  | _ => rfl

structure In1 (w : World) (wr : Wrs) (ts : List (List Value)) (tm : List Value) (ex : Bool) (u : Value) (st : St) (g : Gh) (c : AV) (S : BS) (st' : St) (g' : Gh) : Prop where
  good : Good w wr ts tm st' g'
  less : Less w st.heap g st'.heap g'
  tree : isX c = false → TR w true (Kr w wr false) S u c
  name : isX c = true → ex = true ∧ VR w st'.heap g' u c ∧ ∃ r p o l x, (c = .ref r p ∨ c = .sub r p o l) ∧ st'.heap[r]?.join = some x ∧ x.ro = true
  apart : ∀ k, S k → k < w.heap.size ∧ ∀ r' x', st'.heap[r']?.join = some x' → ¬ g'.F r' k
  was : ∀ k, S k → ∃ r x, st.heap[r]?.join = some x ∧ x.ro = false ∧ g.F r k
  one : u.oneCell' = true

theorem In1.leaf {w : World} {wr : Wrs} {ts : List (List Value)} {tm : List Value} {ex : Bool} {u : Value} {st : St} {g : Gh} {c : AV} (G : Good w wr ts tm st g)
    (h : ∀ S, TR w true (Kr w wr false) S u c) (hx : isX c = false) (h1 : u.oneCell' = true := by rfl) : In1 w wr ts tm ex u st g c (fun _ => False) st g :=
  ⟨G, .refl, fun _ => h _, fun h => (by rw [hx] at h; cases h), fun _ h => h.elim, fun _ h => h.elim, h1⟩

theorem cellIn_sound {w : World} {wr : Wrs} {ts : List (List Value)} {tm : List Value} {ex : Bool} {esz : Nat} {u : Value} {a : AV} {st : St} {g : Gh} {h0 : Heap} {g0 : Gh} {k : AV → St → R} {res : Res}
    (h : cellIn false ex esz a st k = some res) (G : Good w wr ts tm st g) (L : Less w h0 g0 st.heap g) (H : VR w h0 g0 u a) :
    ∃ c S st' g', k c st' = some res ∧ In1 w wr ts tm ex u st g c S st' g' := by
  have named : ∀ r p o l x, (a = .ref r p ∨ a = .sub r p o l) → st.heap[r]?.join = some x → x.ro = true → k a st = some res → ex = true →
      ∃ c S st' g', k c st' = some res ∧ In1 w wr ts tm ex u st g c S st' g' := by
    intro r p o l x ha hx hr hk hex
    obtain ⟨x0, hx0, e, _⟩ := L.flags r x hx
    refine ⟨a, fun _ => False, st, g, hk, G, .refl, fun hn => ?_, fun _ => ⟨hex, L.keepRO hx0 (e.trans hr) ha H, r, p, o, l, x, ha, hx, hr⟩, fun _ h => h.elim, fun _ h => h.elim, G.rel.one_of (L.keepRO hx0 (e.trans hr) ha H) (by rcases ha with rfl | rfl <;> rfl)⟩
    rcases ha with rfl | rfl <;> simp [isX] at hn
  cases a with
  | bool b => cases H; exact ⟨_, _, _, _, h, .leaf G (fun _ => .bool b) rfl⟩
  | int kd n => cases H; exact ⟨_, _, _, _, h, .leaf G (fun _ => .int kd n) rfl⟩
  | str s => cases H; exact ⟨_, _, _, _, h, .leaf G (fun _ => .str s) rfl⟩
  | nilp => cases H; exact ⟨_, _, _, _, h, .leaf G (fun _ => .nilp) rfl⟩
  | nilf => cases H; exact ⟨_, _, _, _, h, .leaf G (fun _ => .nilf) rfl⟩
  | emp => cases H; exact ⟨_, _, _, _, h, .leaf G (fun _ => .nil) rfl⟩
  | lst sz rows =>
    cases H
    exact ⟨_, _, _, _, h, .leaf G (fun _ => .nil) rfl⟩
  | ref r p =>
    simp only [cellIn] at h
    obtain ⟨x, hx, h⟩ := code_inv (o := 0) (l := 0) (.inl rfl) h
    rcases h with ⟨hr, h⟩ | ⟨hr, h | h⟩
    · cases ex with
      | true => exact named r p 0 0 x (.inl rfl) hx hr h rfl
      | false => simp at h
    · simp only at h
      obtain ⟨v, sz, rows, S, st', g', hk, T⟩ := takeL_sound h G
      have hu : u = v := by
        cases L.WR H.weak ⟨_, T.at_⟩ with
        | ref h1 => rw [T.at_] at h1; cases h1; rfl
      subst hu
      obtain ⟨x', hx', hr', hw⟩ := T.was
      exact ⟨_, S, st', g', hk, T.good, T.less, fun _ => T.tree, fun h => (by simp [isX] at h), T.apart, fun k hk => ⟨r, x', hx', hr', hw k hk⟩, T.tree.one (by simp)⟩
    · simp at h
  | sub r p off len =>
    simp only [cellIn] at h
    obtain ⟨x, hx, h⟩ := code_inv (o := off) (l := len) (.inr rfl) h
    rcases h with ⟨hr, h⟩ | ⟨hr, h | h⟩
    · cases ex with
      | true => exact named r p off len x (.inr rfl) hx hr h rfl
      | false => simp at h
    · simp only at h
      obtain ⟨v, sz, rows, S, st', g', hk, T⟩ := takeL_sound h G
      have hu : off + len ≤ rows.length ∧ SubV v off sz len u := by
        cases L.WR H.weak ⟨_, T.at_⟩ with
        | sub h1 hl h2 => rw [T.at_] at h1; cases h1; exact ⟨hl, h2⟩
      obtain ⟨x', hx', hr', hw⟩ := T.was
      exact ⟨_, S, st', g', hk, T.good, T.less, fun _ => T.tree.sub hu.1 hu.2, fun h => (by simp [isX] at h), T.apart, fun k hk => ⟨r, x', hx', hr', hw k hk⟩, (T.tree.sub hu.1 hu.2).one (by simp)⟩
    · simp at h
  | _ => simp [cellIn] at h

theorem Hand.less {w : World} {wr : Wrs} {h h' : Heap} {g g' : Gh} {ex : Bool} (L : Less w h g h' g') {u : Value} {c : AV} {S : BS} {us : List Value} {l : List AV} {Ss : List BS} (h1 : isX c = false → TR w true (Kr w wr false) S u c)
    (h2 : isX c = true → ex = true ∧ VR w h g u c ∧ ∃ r p o l x, (c = .ref r p ∨ c = .sub r p o l) ∧ h[r]?.join = some x ∧ x.ro = true)
    (h3 : ∀ k, S k → k < w.heap.size ∧ ∀ r' x', h[r']?.join = some x' → ¬ g.F r' k) (h4 : ∀ S' ∈ Ss, ∀ k, S' k → ∃ r x, h[r]?.join = some x ∧ x.ro = false ∧ g.F r k) (h5 : Hand w wr h' g' ex us l Ss) :
    Hand w wr h' g' ex (u :: us) (c :: l) (S :: Ss) := by
  refine .cons h1 (fun hx => ?_) (fun k hk => ⟨(h3 k hk).1, fun r' x' hx' hF => ?_⟩) (fun S' hS' k hk hk' => ?_) h5
  · obtain ⟨e1, e2, r, p, o, l, x, e3, e4, e5⟩ := h2 hx
    exact ⟨e1, L.keepRO e4 e5 e3 e2⟩
  · obtain ⟨x, hx, _, _, _, hf⟩ := L.flags r' x' hx'
    exact (h3 k hk).2 r' x hx (hf k hF)
  · obtain ⟨r, x, hx, _, hF⟩ := h4 S' hS' k hk'
    exact (h3 k hk).2 r x hx hF

structure Ins (w : World) (wr : Wrs) (ts : List (List Value)) (tm : List Value) (ex : Bool) (us : List Value) (st : St) (g : Gh) (cs : List AV) (Ss : List BS) (st' : St) (g' : Gh) : Prop where
  good : Good w wr ts tm st' g'
  less : Less w st.heap g st'.heap g'
  hand : Hand w wr st'.heap g' ex us cs Ss
  was : ∀ S ∈ Ss, ∀ k, S k → ∃ r x, st.heap[r]?.join = some x ∧ x.ro = false ∧ g.F r k
  one : ∀ u ∈ us, u.oneCell' = true

theorem cellsIn0_sound {w : World} {wr : Wrs} {ts : List (List Value)} {tm : List Value} {ex : Bool} {esz : Nat} {h0 : Heap} {g0 : Gh} {res : Res} :
    ∀ {l : List AV} {us : List Value} {st : St} {g : Gh} {k : List AV → St → R}, cellsIn0 false ex esz l st k = some res → Good w wr ts tm st g → Less w h0 g0 st.heap g → VRs w h0 g0 us l →
    ∃ cs Ss st' g', k cs st' = some res ∧ Ins w wr ts tm ex us st g cs Ss st' g'
  | [], _, st, g, k, h, G, _, .nil => ⟨[], [], st, g, h, G, .refl, .nil, fun _ h => (by simp at h), fun _ h => (by simp at h)⟩
  | a :: l, _, st, g, k, h, G, L, .cons (v := u) (vs := us) H1 H2 => by
    simp only [cellsIn0] at h
    obtain ⟨c, S, st1, g1, h, I1⟩ := cellIn_sound h G L H1
    obtain ⟨cs, Ss, st2, g2, h, I2⟩ := cellsIn0_sound h I1.good (L.trans I1.less) H2
    refine ⟨c :: cs, S :: Ss, st2, g2, h, I2.good, I1.less.trans I2.less, Hand.less I2.less I1.tree I1.name I1.apart I2.was I2.hand, fun S' hS' k hk => ?_, fun u' hu' => by
      rcases List.mem_cons.1 hu' with rfl | hu'
      · exact I1.one
      · exact I2.one u' hu'⟩
    rcases List.mem_cons.1 hS' with rfl | hS'
    · exact I1.was k hk
    · obtain ⟨r, x, hx, hr, hF⟩ := I2.was S' hS' k hk
      obtain ⟨x0, hx0, e, _, _, hf⟩ := I1.less.flags r x hx
      exact ⟨r, x0, hx0, e.trans hr, hf k hF⟩

theorem cellIn_names {w : World} {wr : Wrs} {ex : Bool} {esz : Nat} {u : Value} {a : AV} {st : St} {g : Gh} {k : AV → St → R} {res : Res}
    (h : cellIn true ex esz a st k = some res) (H : VR w st.heap g u a) :
    ∃ c, k c st = some res ∧ (isX c = false → ∀ S, TR w true (Kr w wr false) S u c) ∧ (isX c = true → ex = true ∧ VR w st.heap g u c) ∧ oneA a = true := by
  have leaf : oneA a = true → ∀ c, k c st = some res → isX c = false → (∀ S, TR w true (Kr w wr false) S u c) → ∃ c, k c st = some res ∧ (isX c = false → ∀ S, TR w true (Kr w wr false) S u c) ∧ (isX c = true → ex = true ∧ VR w st.heap g u c) ∧ oneA a = true :=
    fun ho c h hx ht => ⟨c, h, fun _ => ht, fun h => (by rw [hx] at h; cases h), ho⟩
  have name : oneA a = true → ∀ c, k c st = some res → isX c = true → ex = true → VR w st.heap g u c → ∃ c, k c st = some res ∧ (isX c = false → ∀ S, TR w true (Kr w wr false) S u c) ∧ (isX c = true → ex = true ∧ VR w st.heap g u c) ∧ oneA a = true :=
    fun ho c h hx he hv => ⟨c, h, fun h => (by rw [hx] at h; cases h), fun _ => ⟨he, hv⟩, ho⟩
  cases a with
  | bool b => cases H; exact leaf rfl _ h rfl fun _ => .bool b
  | int kd n => cases H; exact leaf rfl _ h rfl fun _ => .int kd n
  | str s => cases H; exact leaf rfl _ h rfl fun _ => .str s
  | nilp => cases H; exact leaf rfl _ h rfl fun _ => .nilp
  | nilf => cases H; exact leaf rfl _ h rfl fun _ => .nilf
  | emp => cases H; exact leaf rfl _ h rfl fun _ => .nil
  | lst sz rows =>
    cases H
    exact leaf rfl _ h rfl fun _ => .nil
  | ref r p =>
    simp only [cellIn] at h
    obtain ⟨x, hx, h⟩ := code_inv (o := 0) (l := 0) (.inl rfl) h
    rcases h with ⟨hr, h⟩ | ⟨hr, h | h⟩
    · cases ex with
      | true => exact name rfl _ h rfl rfl H
      | false => simp at h
    · simp at h
    · cases ex with
      | true => exact name rfl _ h rfl rfl H
      | false => simp at h
  | sub r p off len =>
    simp only [cellIn] at h
    obtain ⟨x, hx, h⟩ := code_inv (o := off) (l := len) (.inr rfl) h
    rcases h with ⟨hr, h⟩ | ⟨hr, h | h⟩
    · cases ex with
      | true => exact name rfl _ h rfl rfl H
      | false => simp at h
    · simp at h
    · cases ex with
      | true => exact name rfl _ h rfl rfl H
      | false => simp at h
  | ptr r p i j =>
    cases ex with
    | true => exact name rfl _ h rfl rfl H
    | false => simp [cellIn] at h
  | fn f cs =>
    cases ex with
    | true => exact name rfl _ h rfl rfl H
    | false => simp [cellIn] at h
  | _ => simp [cellIn] at h
theorem cellsIn0_names {w : World} {wr : Wrs} {ts : List (List Value)} {tm : List Value} {ex : Bool} {esz : Nat} {st : St} {g : Gh} {res : Res} (G : Good w wr ts tm st g) :
    ∀ {l : List AV} {us : List Value} {k : List AV → St → R}, cellsIn0 true ex esz l st k = some res → VRs w st.heap g us l →
    ∃ cs Ss, k cs st = some res ∧ Ins w wr ts tm ex us st g cs Ss st g
  | [], _, k, h, .nil => ⟨[], [], h, G, .refl, .nil, fun _ h => (by simp at h), fun _ h => (by simp at h)⟩
  | a :: l, _, k, h, .cons (v := u) (vs := us) H1 H2 => by
    simp only [cellsIn0] at h
    obtain ⟨c, h, I1, I2, I3⟩ := cellIn_names (wr := wr) h H1
    obtain ⟨cs, Ss, h, I⟩ := cellsIn0_names G h H2
    refine ⟨c :: cs, (fun _ => False) :: Ss, h, G, .refl, .cons (fun hx => I1 hx _) I2 (fun _ h => h.elim) (fun _ _ _ h => h.elim) I.hand, fun S' hS' k hk => ?_, fun u' hu' => by
      rcases List.mem_cons.1 hu' with rfl | hu'
      · exact G.rel.one_of H1 I3
      · exact I.one u' hu'⟩
    rcases List.mem_cons.1 hS' with rfl | hS'
    · exact hk.elim
    · exact I.was S' hS' k hk
theorem hasAlias_inv {h : Heap} {l : List AV} {k : Bool → R} {res : Res} (hh : hasAlias h l k = some res) : ∃ b, k b = some res := by
  induction l with
  | nil => exact ⟨_, hh⟩
  | cons v l ih =>
    simp only [hasAlias] at hh
    have : ∃ n, (match n with | 0 => hasAlias h l k | 1 => hasAlias h l k | _ => k true) = some res := by
      cases v <;> simp only [code] at hh
      case ref r p =>
        obtain ⟨x, _, hh⟩ := getH_inv hh
        obtain ⟨ro, virt, box, sz, rows⟩ := x
        cases ro
        · cases p
          · exact ⟨1, hh⟩
          · cases virt
            · exact ⟨2, hh⟩
            · exact ⟨1, hh⟩
        · exact ⟨0, hh⟩
      case sub r p _ _ =>
        obtain ⟨x, _, hh⟩ := getH_inv hh
        obtain ⟨ro, virt, box, sz, rows⟩ := x
        cases ro
        · cases p
          · exact ⟨1, hh⟩
          · cases virt
            · exact ⟨2, hh⟩
            · exact ⟨1, hh⟩
        · exact ⟨0, hh⟩
      case ptr => exact ⟨2, hh⟩
      case fn => exact ⟨2, hh⟩
      all_goals exact ⟨0, hh⟩
    obtain ⟨n, hn⟩ := this
    match n, hn with
    | 0, hn => exact ih hn
    | 1, hn => exact ih hn
    | n + 2, hn => exact ⟨_, hn⟩
theorem cellsIn_sound {w : World} {wr : Wrs} {ts : List (List Value)} {tm : List Value} {ex : Bool} {esz : Nat} {st : St} {g : Gh} {res : Res} {l : List AV} {us : List Value} {k : List AV → St → R}
    (h : cellsIn ex esz l st k = some res) (G : Good w wr ts tm st g) (H : VRs w st.heap g us l) : ∃ cs Ss st' g', k cs st' = some res ∧ Ins w wr ts tm ex us st g cs Ss st' g' := by
  unfold cellsIn at h
  obtain ⟨b, h⟩ := hasAlias_inv h
  cases b with
  | true =>
    obtain ⟨cs, Ss, h, I⟩ := cellsIn0_names G h H
    exact ⟨cs, Ss, st, g, h, I⟩
  | false => exact cellsIn0_sound h G .refl H

end Go.Abs

/- Soundness 18: operands, results; stores. -/
namespace Go.Abs

theorem opnd_sound {w : World} {h : Heap} {g : Gh} {e : List AV} {o : Operand} {k : AV → R} {res : Res} {a : Act} (hh : opnd e o k = some res) (H : VRs w h g a.tmps.toList e) :
    ∃ av, k av = some res ∧ VR w h g (a.eval o) av := by
  cases o with
  | tmp t =>
    simp only [opnd] at hh
    obtain ⟨av, h1, hk⟩ := getE_inv hh
    obtain ⟨v, h2, h3⟩ := H.get h1
    refine ⟨av, hk, ?_⟩
    have : a.eval (.tmp t) = v := by
      simp only [Act.eval, Array.getD_eq_getD_getElem?]
      rw [← Array.getElem?_toList, h2]
      rfl
    rw [this]
    exact h3
  | const v =>
    simp only [opnd] at hh
    split at hh
    · exact ⟨_, hh, .int _ _⟩
    · exact ⟨_, hh, .bool _⟩
    · exact ⟨_, hh, .str _⟩
    · exact ⟨_, hh, .nilp⟩
    · exact ⟨_, hh, .nilf⟩
    · exact ⟨_, hh, .emp⟩
    · cases hh
  | func f =>
    simp only [opnd] at hh
    exact ⟨_, hh, .fn .nil⟩
  | global _ => simp [opnd] at hh
theorem opnds_sound {w : World} {h : Heap} {g : Gh} {e : List AV} {a : Act} (H : VRs w h g a.tmps.toList e) : ∀ {os : List Operand} {k : List AV → R} {res : Res}, opnds e os k = some res →
    ∃ avs, k avs = some res ∧ VRs w h g (os.map a.eval) avs
  | [], k, res, hh => ⟨[], hh, .nil⟩
  | o :: os, k, res, hh => by
    simp only [opnds] at hh
    obtain ⟨av, hh, h1⟩ := opnd_sound hh H
    obtain ⟨avs, hh, h2⟩ := opnds_sound H hh
    exact ⟨_, hh, .cons h1 h2⟩
theorem put_tmps (a : Act) (d : Option Tmp) (v : Value) : (a.put d v).tmps.toList = match d with | some t => a.tmps.toList.set t v | none => a.tmps.toList := by
  cases d with
  | none => rfl
  | some t => simp [Act.put, Array.toList_setIfInBounds]
theorem put_defers (a : Act) (d : Option Tmp) (v : Value) : (a.put d v).defers = a.defers := by cases d <;> rfl
theorem putD_sound {w : World} {wr : Wrs} {ts : List (List Value)} {a : Act} {st : St} {g : Gh} {d : Option Tmp} {v : Value} {av : AV} {k : St → R} {res : Res} (h : putD st d av k = some res)
    (G : Good w wr ts a.tmps.toList st g) (H : VR w st.heap g v av) : ∃ e', k ⟨e', st.stk, st.heap⟩ = some res ∧ Good w wr ts (a.put d v).tmps.toList ⟨e', st.stk, st.heap⟩ g := by
  cases d with
  | none => exact ⟨st.env, h, G⟩
  | some t =>
    simp only [putD] at h
    obtain ⟨_, h⟩ := setE_inv h
    refine ⟨_, h, G.rel, ?_, G.stk⟩
    rw [put_tmps]
    exact VRs.set H G.env
theorem isLen_inv {n : Nat} {l : List AV} (h : isLen n l = true) : l.length = n := by
  induction n generalizing l with
  | zero => cases l with
    | nil => rfl
    | cons a l => simp [isLen] at h
  | succ n ih => cases l with
    | nil => simp [isLen] at h
    | cons a l => simp only [isLen] at h; simp [ih h]
theorem cells_one {v : Value} (h : v.oneCell' = true) : v.cells = #[v] := by
  cases v <;> first | rfl | (simp [Value.oneCell'] at h)
theorem partsN_sound {w : World} {wr : Wrs} {h : Heap} {g : Gh} {n : Nat} {v : Value} {a : AV} {k : List AV → R} {res : Res} (R : Rel w wr h g) (hh : partsN n a k = some res) (H : VR w h g v a) :
    ∃ l, k l = some res ∧ VRs w h g v.cells.toList l ∧ l.length = n ∧ v.cells.size = n ∧ ((∃ cs, a = .agg cs ∧ l = cs) ∨ l = [a]) := by
  have one : n = 1 → k [a] = some res → v.cells = #[v] → ∃ l, k l = some res ∧ VRs w h g v.cells.toList l ∧ l.length = n ∧ v.cells.size = n ∧ ((∃ cs, a = .agg cs ∧ l = cs) ∨ l = [a]) :=
    fun hn hk hc => ⟨[a], hk, by rw [hc]; exact .cons H .nil, by simp [hn], by rw [hc]; simp [hn], .inr rfl⟩
  cases a with
  | agg cs =>
    simp only [partsN] at hh
    split at hh
    · rename_i hl
      cases H with
      | agg h1 =>
        have hl := isLen_inv hl
        exact ⟨cs, hh, by simpa [Value.cells] using h1, hl, by have := h1.length; simp [Value.cells]; omega, .inl ⟨cs, rfl, rfl⟩⟩
    · cases hh
  | undef => simp [partsN] at hh
  | pv => simp [partsN] at hh
  | _ =>
    simp only [partsN] at hh
    split at hh
    · refine one rfl hh ?_
      first | exact cells_one (Rel.one_of R H rfl) | (cases H; rfl)
    · cases hh

end Go.Abs

/- Soundness 19: stores. -/
namespace Go.Abs

theorem putCells_walks {w : World} {wr : Wrs} {ts : List (List Value)} {tm : List Value} {st : St} {g : Gh} {r : Nat} {p : Path} {i j : Nat} {c : AV} {cs : List AV} {k : St → R} {res : Res}
    (h : putCells r p i j (c :: cs) st k = some res) (G : Good w wr ts tm st g) (hv : ∀ x, st.heap[r]?.join = some x → x.virt = true → p ≠ []) : ∃ y, hwalk w st.heap g r p = some y := by
  simp only [putCells] at h
  cases hs : isSl c with
  | true =>
    simp only [hs] at h
    rw [colsAnd_eq] at h
    obtain ⟨cc, hcc⟩ : ∃ cc, cc = List.map Prod.snd (p ++ [((0 : Nat), j)]) := ⟨_, rfl⟩
    rw [← hcc] at h
    split at h
    · rw [kill_eq] at h
      obtain ⟨x1, sz1, rows, e1, e2, h⟩ := modH_inv h
      obtain ⟨G1, _⟩ := G.kill r cc
      obtain ⟨x, hx, _, f2, _⟩ := (Less.kill (w := w) (h := st.heap) (g := g) r cc).flags r x1 e1
      obtain ⟨v, hw, _⟩ := G1.rel.walks e1 e2 (fun hx1 => hv x hx (f2.trans hx1))
      obtain ⟨rows', hb, _⟩ := (Less.kill (w := w) (h := st.heap) (g := g) r cc).back _ _ _ _ _ hw
      exact ⟨_, hb⟩
    · cases h
  | false =>
    simp only [hs] at h
    obtain ⟨x1, sz1, rows, e1, e2, h⟩ := modH_inv h
    obtain ⟨v, hw, _⟩ := G.rel.walks e1 e2 (hv x1 e1)
    exact ⟨_, hw⟩

/-- the world since the function began -/
structure Fr (w0 : World) (wr0 : CS) (w : World) : Prop where
  os : w.os = w0.os
  tape : w.tape = w0.tape
  output : w.output = w0.output
  size : w0.heap.size ≤ w.heap.size
  block : ∀ b, b < w0.heap.size → (∀ q, ¬ wr0 b q) → w.heap[b]? = w0.heap[b]?
  cells : ∀ b cs e fz, w0.heap[b]? = some (.cells cs e fz) → ∃ cs', w.heap[b]? = some (.cells cs' e fz) ∧ cs'.size = cs.size ∧ ∀ q, ¬ wr0 b q → cs'[q]? = cs[q]?
theorem Fr.refl (w : World) (wr0 : CS) : Fr w wr0 w := ⟨rfl, rfl, rfl, Nat.le_refl _, fun _ _ _ => rfl, fun _ cs _ _ h => ⟨cs, h, rfl, fun _ _ => rfl⟩⟩
theorem Fr.setCell {w0 : World} {wr0 : CS} {w : World} (F : Fr w0 wr0 w) {b q : Nat} {u : Value} (h : b < w0.heap.size → wr0 b q) : Fr w0 wr0 (w.setCell ⟨b, q, none⟩ u) := by
  refine ⟨F.os, F.tape, F.output, by simp; exact F.size, fun b' hb hn => ?_, fun b' cs e fz hb => ?_⟩
  · rw [setCell_other (fun e => by subst e; exact hn q (h hb))]
    exact F.block b' hb hn
  · obtain ⟨cs', h1, h2, h3⟩ := F.cells b' cs e fz hb
    by_cases e1 : b' = b
    · subst e1
      refine ⟨cs'.setIfInBounds q u, setCell_heap h1, by simp [h2], fun q' hq => ?_⟩
      have hlt : b' < w0.heap.size := by
        rcases Nat.lt_or_ge b' w0.heap.size with h | h
        · exact h
        · rw [Array.getElem?_eq_none h] at hb; cases hb
      rw [Array.getElem?_setIfInBounds_ne (fun e => hq (by rw [← e]; exact h hlt))]
      exact h3 q' hq
    · exact ⟨cs', by rw [setCell_other e1]; exact h1, h2, h3⟩
theorem Fr.setCells {w0 : World} {wr0 : CS} {b : Nat} : ∀ {us : List Value} {o : Nat} {w : World}, Fr w0 wr0 w → (∀ q, q < us.length → b < w0.heap.size → wr0 b (o + q)) → Fr w0 wr0 (w.setCells b o us)
  | [], _, _, F, _ => F
  | u :: us, o, w, F, h => (F.setCell (fun hb => h 0 (by simp) hb)).setCells (fun q hq hb => by have := h (q + 1) (by simpa using hq) hb; rwa [show o + (q + 1) = o + 1 + q by omega] at this)

theorem samePl_inv {p p' : Path} {i j : Nat} (h : samePl p p' i j = true) : p' = p ++ [(i, j)] := by
  induction p generalizing p' with
  | nil =>
    cases p' with
    | nil => simp [samePl] at h
    | cons a p' =>
      obtain ⟨i', j'⟩ := a
      cases p' with
      | nil => simp [samePl] at h; simp [h]
      | cons => simp [samePl] at h
  | cons a p ih =>
    obtain ⟨i0, j0⟩ := a
    cases p' with
    | nil => simp [samePl] at h
    | cons a p' =>
      obtain ⟨i', j'⟩ := a
      simp only [samePl, Bool.and_eq_true, beq_iff_eq] at h
      obtain ⟨⟨rfl, rfl⟩, h⟩ := h
      rw [ih h]
      rfl
theorem br_inv {b : Bool} {x y : R} {res : Res} (h : br b x y = some res) : (b = true ∧ x = some res) ∨ (b = false ∧ y = some res) := by
  cases b
  · rw [br_false] at h; exact .inr ⟨rfl, h⟩
  · rw [br_true] at h; exact .inl ⟨rfl, h⟩

theorem storeCells_sound {P : Program} {w : World} {t : TypeId} {ti : TInfo} (hti : TyOK P t ti) {b o : Nat} {v : Value} (hn : v.cells.size = ti.size) (h1 : ∀ u ∈ v.cells.toList, u.oneCell' = true)
    (hc : ∀ q, q < v.cells.toList.length → (w.cell? ⟨b, o + q, none⟩).isSome = true ∧ w.frozen? ⟨b, o + q, none⟩ = false) :
    (Instr.storeAt t (.pointer (some ⟨b, o, none⟩)) v).run P w = .ok () (w.setCells b o v.cells.toList) := by
  obtain ⟨_, ⟨ii, z, hi1, hi2, _⟩, _⟩ := hti
  have hst := run_storeCells_cells (P := P) b o v.cells.toList 0 w (fun j hj => (hc j hj).1) (fun j hj => (hc j hj).2) h1
  simp only [Nat.add_zero] at hst
  simp [Instr.storeAt, Instr.sureAddr, storeVar, sizeOf, typeInfo, hi1, hi2, hn, hst]

theorem elemSz_inv {cfg : Cfg} {t : TypeId} {k : Nat → R} {res : Res} (h : elemSz cfg t k = some res) : ∃ n, k n = some res := by
  unfold elemSz at h
  obtain ⟨_, _, h⟩ := tyK_inv h
  split at h
  · obtain ⟨_, _, h⟩ := tyK_inv h
    exact ⟨_, h⟩
  · exact ⟨_, h⟩
theorem storeT_sound {P : Program} {cfg : Cfg} (hT : TysOK P cfg.ty) {w : World} {wr : Wrs} {ts : List (List Value)} {tm : List Value} {st : St} {g : Gh} {t : TypeId} {va vv : Value} {a v : AV} {k : St → R} {res : Res}
    (hh : storeT cfg t st a v k = some res) (G : Good w wr ts tm st g) (ha : VR w st.heap g va a) (hv : VR w st.heap g vv v) :
    ∃ w' st' g', (Instr.storeAt t va vv).run P w = .ok () w' ∧ k st' = some res ∧ Good w' wr ts tm st' g' ∧ ∃ b o us, w' = w.setCells b o us ∧ ∀ q, q < us.length → wr b (o + q) := by
  cases ha <;> simp only [storeT] at hh <;> try (simp at hh; done)
  rename_i r p i j sz rows b o n c hp
  obtain ⟨ti, hti, hh⟩ := tyK_inv hh
  obtain ⟨l, hh, hl, hln, hvn, hshape⟩ := partsN_sound G.rel hh hv
  obtain ⟨esz, hh⟩ := elemSz_inv hh
  obtain ⟨x, hx, hh⟩ := getH_inv hh
  have hx : st.heap[r]?.join = some x := by rw [hx]; rfl
  have hvirt : x.virt = true → p ≠ [] := by
    obtain ⟨x', hx', _, hv'⟩ := hwalk_res hp
    rw [hx] at hx'
    cases hx'
    exact hv'
  obtain ⟨ro, virt, box, sz0, rows0⟩ := x
  simp only at hh
  cases ro with
  | true => cases hh
  | false =>
  simp only at hh
  -- what all ways come to
  have fin : ∀ (ex : Bool) (cs : List AV) (us : List Value) (Ss : List BS) (st1 : St) (g1 : Gh), us = vv.cells.toList → putCells r p i j cs st1 k = some res → Good w wr ts tm st1 g1 → Less w st.heap g st1.heap g1 →
      Hand w wr st1.heap g1 ex us cs Ss → (∀ u ∈ us, u.oneCell' = true) → (ex = true → box = true ∧ p = [] ∧ virt = false) →
      ∃ w' st' g', (Instr.storeAt t (.pointer (some ⟨b, o + i * sz + j, none⟩)) vv).run P w = .ok () w' ∧ k st' = some res ∧ Good w' wr ts tm st' g' ∧ ∃ b o us, w' = w.setCells b o us ∧ ∀ q, q < us.length → wr b (o + q) := by
    intro ex cs us Ss st1 g1 hus hk G1 L hand hone hex
    subst hus
    cases cs with
    | nil =>
      have h0 : vv.cells.toList = [] := by have := hand.length; simpa using this
      refine ⟨w, st1, g1, ?_, hk, G1, b, o, [], rfl, fun q hq => by simp at hq⟩
      have := storeCells_sound (P := P) (w := w) (hT _ hti) (b := b) (o := o + i * sz + j) (v := vv) hvn hone (fun q hq => by rw [h0] at hq; simp at hq)
      rw [h0] at this
      exact this
    | cons c0 cs =>
      obtain ⟨⟨v1, s1, r1⟩, hw1⟩ := putCells_walks hk G1 (fun x1 hx1 hvt => by
        obtain ⟨x', hx', _, f2, _⟩ := L.flags r x1 hx1
        rw [hx] at hx'
        cases hx'
        exact hvirt (f2.trans hvt))
      obtain ⟨r0, hb, _⟩ := L.back _ _ _ _ _ hw1
      rw [hp] at hb
      cases hb
      obtain ⟨x1, hx1, _⟩ := hwalk_res hw1
      obtain ⟨x', hx', f1, f2, f3, _⟩ := L.flags r x1 hx1
      rw [hx] at hx'
      cases hx'
      obtain ⟨st', g', k1, k2, k3⟩ := putCells_sound (c0 :: cs) j vv.cells.toList Ss st1 g1 w hk G1 ⟨x1, hx1, f1.symm, fun he => let ⟨e1, e2, e3⟩ := hex he; ⟨f3.symm.trans e1, e2, f2.symm.trans e3⟩⟩ ⟨_, hw1⟩ hand
      exact ⟨_, st', g', storeCells_sound (hT _ hti) hvn hone (fun q hq => ⟨(k3 q hq).1, (k3 q hq).2.1⟩), k1, k2, b, o + i * sz + j, _, rfl, fun q hq => (k3 q hq).2.2⟩
  have plain : cellsIn false esz l st (fun cs st => putCells r p i j cs st k) = some res →
      ∃ w' st' g', (Instr.storeAt t (.pointer (some ⟨b, o + i * sz + j, none⟩)) vv).run P w = .ok () w' ∧ k st' = some res ∧ Good w' wr ts tm st' g' ∧ ∃ b o us, w' = w.setCells b o us ∧ ∀ q, q < us.length → wr b (o + q) := by
    intro hh
    obtain ⟨cs, Ss, st1, g1, hk, I⟩ := cellsIn_sound hh G hl
    exact fin false cs _ Ss st1 g1 rfl hk I.good I.less I.hand I.one (fun h => by cases h)
  split at hh
  · obtain ⟨cs, Ss, st1, g1, hk, I⟩ := cellsIn_sound hh G hl
    exact fin true cs _ Ss st1 g1 rfl hk I.good I.less I.hand I.one (fun _ => ⟨rfl, rfl, rfl⟩)
  · split at hh
    · rename_i r' p' off len
      split at hh
      · rename_i e
        subst e
        rcases br_inv hh with ⟨hs, hh⟩ | ⟨_, hh⟩
        · have hp' := samePl_inv hs
          obtain ⟨v1, sz1, rows1, S, st1, g1, hk, T⟩ := takeL_sound hh G
          cases hv with
          | sub h1 hlen h2 =>
            rw [T.at_] at h1
            cases h1
            have htr := T.tree.sub hlen h2
            have hvc : vv.cells.toList = [vv] := by rw [cells_one (htr.one (by simp))]
            refine fin false _ [vv] [S] st1 g1 hvc.symm hk T.good T.less (.cons (fun _ => htr) (fun h => by simp [isX] at h) T.apart (fun _ h => by simp at h) .nil) (fun u hu => ?_) (fun h => by cases h)
            simp at hu
            subst hu
            exact htr.one (by simp)
        · cases hh
      · exact plain hh
    · exact plain hh

end Go.Abs

/- Soundness 20: new roots. -/
namespace Go.Abs

def Wrs.Agree (n : Nat) (wr wr' : Wrs) : Prop := wr'.dom = wr.dom ∧ ∀ b q, b < n → (wr' b q ↔ wr b q)
theorem Kr_wr {w : World} {wr wr' : Wrs} {n : Nat} (A : wr.Agree n wr') {ro : Bool} {b q : Nat} (hb : b < n) (h : Kr w wr ro b q) : Kr w wr' ro b q := by
  cases ro with
  | false => exact ⟨(A.2 b q hb).2 h.1, h.2⟩
  | true => exact ⟨fun h' => h.1 ((A.2 b q hb).1 h'), by rw [A.1]; exact h.2⟩
theorem TR.wr {w : World} {wr wr' : Wrs} {n : Nat} (A : wr.Agree n wr') {own ro : Bool} {S : BS} {v : Value} {a : AV} (h : TR w own (Kr w wr ro) S v a) (hS : ∀ k, S k → k < n) : TR w own (Kr w wr' ro) S v a :=
  h.mono (fun _ h => h) (fun b _ hb hk => Kr_wr A (hS b hb) hk)
theorem Rel.wr {w : World} {wr wr' : Wrs} {h : Heap} {g : Gh} (R : Rel w wr h g) (A : wr.Agree w.heap.size wr') : Rel w wr' h g := by
  refine ⟨fun r x hx => ?_, R.sep, R.low⟩
  have hR := R.root r x hx
  have low : ∀ k, g.F r k → k < w.heap.size := fun k hk => R.low r x k hx hk
  unfold RootR at hR ⊢
  cases hv : x.virt with
  | true =>
    simp only [hv] at hR ⊢
    obtain ⟨row, f, h1, h2, h3, h4, h5⟩ := hR
    exact ⟨row, f, h1, h2, h3, h4, fun j a v ha hv => (h5 j a v ha hv).wr A (fun k hk => low k (h3 j k hk))⟩
  | false =>
    cases hb : x.box with
    | false => simp only [hv, hb] at hR ⊢; exact hR.wr A low
    | true =>
      simp only [hv, hb] at hR ⊢
      obtain ⟨b, o, cs, e, fz, f, h1, h2, h3, h4, h5, h6, h7, h8, h9⟩ := hR
      refine ⟨b, o, cs, e, fz, f, h1, h2, h3, h4, fun q q1 q2 => Kr_wr A (low b h6) (h5 q q1 q2), h6, h7, h8, fun i j row a hr ha => ?_⟩
      have hc := h9 i j row a hr ha
      unfold CellB at hc ⊢
      cases hX : isX a with
      | true => simp only [hX] at hc ⊢; exact hc
      | false => simp only [hX] at hc ⊢; exact hc.wr A (fun k hk => low k (h7 i j k hk))
theorem Good.wr {w : World} {wr wr' : Wrs} {ts : List (List Value)} {tm : List Value} {st : St} {g : Gh} (G : Good w wr ts tm st g) (A : wr.Agree w.heap.size wr') : Good w wr' ts tm st g := ⟨G.rel.wr A, G.env, G.stk⟩
theorem Hand.wr {w : World} {wr wr' : Wrs} {h : Heap} {g : Gh} {ex : Bool} (A : wr.Agree w.heap.size wr') : ∀ {us : List Value} {l : List AV} {Ss : List BS}, Hand w wr h g ex us l Ss → Hand w wr' h g ex us l Ss
  | _, _, _, .nil => .nil
  | _, _, _, .cons h1 h2 h3 h4 h5 => .cons (fun hx => (h1 hx).wr A (fun k hk => (h3 k hk).1)) h2 h3 h4 (Hand.wr A h5)

def gNew (g : Gh) (slot : Nat) (ρ0 : Value) (G0 : List Value) (F0 : BS) : Gh := ⟨fun r => if r = slot then ρ0 else g.ρ r, fun r => if r = slot then G0 else g.G r, fun r => if r = slot then F0 else g.F r⟩

theorem Rel.new2 {w w' : World} {wr : Wrs} {h : Heap} {g : Gh} (R : Rel w wr h g) {slot : Nat} (hs : h[slot]?.join = none) (hsz : w.heap.size ≤ w'.heap.size)
    (hw : ∀ k, k < w.heap.size → w'.heap[k]? = w.heap[k]?) (x : Root) (ρ0 : Value) (G0 : List Value) (F0 : BS) (hF : ∀ k, F0 k → k < w'.heap.size) (hA : ∀ r' x' k, h[r']?.join = some x' → (x.ro = false ∨ x'.ro = false) → F0 k → ¬ g.F r' k)
    (hX : Rel w wr h g → Keeps (fun _ _ => True) w h g w' (put h slot (some x)) (gNew g slot ρ0 G0 F0) → RootR w' wr (put h slot (some x)) (gNew g slot ρ0 G0 F0) slot x) :
    Rel w' wr (put h slot (some x)) (gNew g slot ρ0 G0 F0) ∧ Keeps (fun _ _ => True) w h g w' (put h slot (some x)) (gNew g slot ρ0 G0 F0) := by
  have hne : ∀ r', r' ≠ slot → (gNew g slot ρ0 G0 F0).ρ r' = g.ρ r' ∧ (gNew g slot ρ0 G0 F0).G r' = g.G r' ∧ (gNew g slot ρ0 G0 F0).F r' = g.F r' := fun r' hr => by simp [gNew, hr]
  have hself : (gNew g slot ρ0 G0 F0).F slot = F0 := by simp [gNew]
  have keeps : Keeps (fun _ _ => True) w h g w' (put h slot (some x)) (gNew g slot ρ0 G0 F0) := by
    intro r p v sz rows _ hh
    by_cases e : r = slot
    · subst e
      simp [hwalk, hs] at hh
    · refine ⟨rows, ?_, rfl⟩
      rw [hwalk_same (fun x hx => R.root r x hx) (by rw [put_get, if_neg e]) ⟨(hne r e).1, (hne r e).2.1⟩ (fun x k hx hF => hw k (R.low r x k hx hF))]
      exact hh
  refine ⟨R.change (r := slot) (X := some x) (HRefs.all (fun _ _ => trivial) h) keeps (fun r' => put_get _ _ _ _) hsz (fun r' x' k _ hx hF => hw k (R.low r' x' k hx hF)) hne
    (fun x' hx' => by cases hx'; exact hX R keeps) (fun x' hx' r' y k hr hy hro hF1 hF2 => ?_) (fun x' _ k hk => by rw [hself] at hk; exact hF k hk), keeps⟩
  cases hx'
  rw [hself] at hF1
  exact hA r' y k hy hro hF1 hF2

/-- the state after a root was made -/
theorem Good.new {w w' : World} {wr : Wrs} {ts : List (List Value)} {tm : List Value} {st : St} {g : Gh} (G : Good w wr ts tm st g) {slot : Nat} (hs : st.heap[slot]?.join = none) (hsz : w.heap.size ≤ w'.heap.size)
    (hw : ∀ k, k < w.heap.size → w'.heap[k]? = w.heap[k]?) (x : Root) (ρ0 : Value) (G0 : List Value) (F0 : BS) (hF : ∀ k, F0 k → k < w'.heap.size) (hA : ∀ r' x' k, st.heap[r']?.join = some x' → (x.ro = false ∨ x'.ro = false) → F0 k → ¬ g.F r' k)
    (hX : Keeps (fun _ _ => True) w st.heap g w' (put st.heap slot (some x)) (gNew g slot ρ0 G0 F0) → RootR w' wr (put st.heap slot (some x)) (gNew g slot ρ0 G0 F0) slot x) :
    Good w' wr ts tm ⟨st.env, st.stk, put st.heap slot (some x)⟩ (gNew g slot ρ0 G0 F0) ∧ Keeps (fun _ _ => True) w st.heap g w' (put st.heap slot (some x)) (gNew g slot ρ0 G0 F0) := by
  obtain ⟨h1, h2⟩ := G.rel.new2 hs hsz hw x ρ0 G0 F0 hF hA (fun _ => hX)
  exact ⟨G.keep (SRefs.all (fun _ _ => trivial) st) h2 h1, h2⟩

/-- cells of a block to be: trees of their own, or names -/
structure Grid (w : World) (wr : Wrs) (h : Heap) (g : Gh) (ex : Bool) (sz : Nat) (rows : Rows) (cs : Array Value) (f : Nat → Nat → BS) : Prop where
  len : ∀ row ∈ rows, row.length = sz
  cell : ∀ (i j : Nat) (row : List AV) (a : AV), rows[i]? = some row → row[j]? = some a → (isX a = false → TR w true (Kr w wr false) (f i j) (cs.getD (i * sz + j) default) a) ∧ (isX a = true → ex = true ∧ VR w h g (cs.getD (i * sz + j) default) a)
  apart : ∀ i j k, f i j k → k < w.heap.size ∧ ∀ r' x', h[r']?.join = some x' → ¬ g.F r' k
  own : ∀ i j i' j' k, f i j k → f i' j' k → i = i' ∧ j = j'

theorem alloc_get {w : World} {ob : Obj} : (w.alloc ob).heap[w.heap.size]? = some ob := by
  show (w.heap.push ob)[w.heap.size]? = some ob
  simp
theorem alloc_old {w : World} {ob : Obj} {k : Nat} (h : k < w.heap.size) : (w.alloc ob).heap[k]? = w.heap[k]? := by
  show (w.heap.push ob)[k]? = w.heap[k]?
  rw [Array.getElem?_push, if_neg (by omega)]
def wrNew (wr : Wrs) (n : Nat) : Wrs := ⟨fun b q => wr b q ∨ b = n, wr.dom⟩
theorem wrNew_agree (wr : Wrs) (n : Nat) : wr.Agree n (wrNew wr n) := ⟨rfl, fun b q hb => ⟨fun h => h.resolve_right (by omega), fun h => .inl h⟩⟩

theorem Good.blockF {w : World} {wr : Wrs} {ts : List (List Value)} {tm : List Value} {st : St} {g : Gh} (G : Good w wr ts tm st g) {slot : Nat} (hs : st.heap[slot]?.join = none) {ex : Bool} {sz : Nat} {rows : Rows} {cs : Array Value} {f : Nat → Nat → BS} (e : TypeId) (c : Nat) (fz : Nat × Nat) (hfz : ∀ q, q < c * sz → ¬ (fz.1 ≤ q ∧ q < fz.2))
    (D : Grid w wr st.heap g ex sz rows cs f) (hc : rows.length ≤ c) (hsz : c * sz ≤ cs.size) (hex : ex = true → c = rows.length) (hpos : 0 < sz) :
    ∃ g', Good (w.alloc (.cells cs e fz)) (wrNew wr w.heap.size) ts tm ⟨st.env, st.stk, put st.heap slot (some ⟨false, false, ex, sz, rows⟩)⟩ g' ∧
      hwalk (w.alloc (.cells cs e fz)) (put st.heap slot (some ⟨false, false, ex, sz, rows⟩)) g' slot [] = some (.slice (some ⟨w.heap.size, 0, none⟩) rows.length c, sz, rows) ∧
      Keeps (fun _ _ => True) w st.heap g (w.alloc (.cells cs e fz)) (put st.heap slot (some ⟨false, false, ex, sz, rows⟩)) g' := by
  have A := wrNew_agree wr w.heap.size
  have hold : ∀ k, k < w.heap.size → (w.alloc (.cells cs e fz)).heap[k]? = w.heap[k]? := fun k hk => alloc_old hk
  have hszw : (w.alloc (.cells cs e fz)).heap.size = w.heap.size + 1 := by
    show (w.heap.push _).size = _
    simp
  have hK : ∀ q, q < c * sz → Kr (w.alloc (.cells cs e fz)) (wrNew wr w.heap.size) false w.heap.size q := fun q hq => ⟨.inr rfl, by simp only [World.frozen?, alloc_get]; simpa using hfz q hq⟩
  have hF : ∀ k, (k = w.heap.size ∨ ∃ i j, f i j k) → k < (w.alloc (.cells cs e fz)).heap.size := by
    intro k hk
    rcases hk with rfl | ⟨i, j, hk⟩
    · omega
    · have := (D.apart i j k hk).1
      omega
  have hA : ∀ r' x' k, st.heap[r']?.join = some x' → ((⟨false, false, ex, sz, rows⟩ : Root).ro = false ∨ x'.ro = false) → (k = w.heap.size ∨ ∃ i j, f i j k) → ¬ g.F r' k := by
    intro r' x' k hx' _ hk hF
    rcases hk with rfl | ⟨i, j, hk⟩
    · have := G.rel.low r' x' _ hx' hF
      omega
    · exact (D.apart i j k hk).2 r' x' hx' hF
  have hX : Keeps (fun _ _ => True) w st.heap g (w.alloc (.cells cs e fz)) (put st.heap slot (some ⟨false, false, ex, sz, rows⟩)) (gNew g slot (.slice (some ⟨w.heap.size, 0, none⟩) rows.length c) [] (fun k => k = w.heap.size ∨ ∃ i j, f i j k)) →
      RootR (w.alloc (.cells cs e fz)) (wrNew wr w.heap.size) (put st.heap slot (some ⟨false, false, ex, sz, rows⟩)) (gNew g slot (.slice (some ⟨w.heap.size, 0, none⟩) rows.length c) [] (fun k => k = w.heap.size ∨ ∃ i j, f i j k)) slot ⟨false, false, ex, sz, rows⟩ := by
    intro keeps
    have tree : ∀ i j row a, rows[i]? = some row → row[j]? = some a → isX a = false → TR (w.alloc (.cells cs e fz)) true (Kr (w.alloc (.cells cs e fz)) (wrNew wr w.heap.size) false) (f i j) (cs.getD (i * sz + j) default) a :=
      fun i j row a hr ha hx => (((D.cell i j row a hr ha).1 hx).wr A (fun k hk => (D.apart i j k hk).1)).same (fun k hk => hold k (D.apart i j k hk).1)
    unfold RootR
    cases ex with
    | false =>
      simp only [gNew, if_true, Bool.not_false]
      by_cases hc0 : c = 0
      · subst hc0
        obtain rfl : rows = [] := List.length_eq_zero_iff.1 (by omega)
        exact .nil
      refine .lst f (fz := fz) (e := e) (cs := cs) alloc_get (by omega) hc D.len ⟨Nat.mul_pos (by omega) hpos, fun q _ hq => hK q (by omega)⟩ (.inl rfl) (fun i j k hk => .inr ⟨i, j, hk⟩) (fun _ => ⟨fun i j hk => by have := (D.apart i j _ hk).1; omega, D.own⟩) (fun i j row a hr ha => ?_)
      rw [Nat.zero_add]
      refine tree i j row a hr ha ?_
      cases hx : isX a with
      | false => rfl
      | true => have := ((D.cell i j row a hr ha).2 hx).1; cases this
    | true =>
      have hcn := hex rfl
      subst hcn
      simp only
      refine ⟨w.heap.size, 0, cs, e, fz, f, by simp [gNew], alloc_get, by dsimp only; omega, D.len, fun q _ hq => hK q (by simp only at hq; omega), by simp [gNew], fun i j k hk => by simp only [gNew, if_true]; exact .inr ⟨i, j, hk⟩,
        fun _ => ⟨fun i j hk => by have := (D.apart i j _ hk).1; omega, D.own⟩, fun i j row a hr ha => ?_⟩
      rw [Nat.zero_add]
      unfold CellB
      cases hx : isX a with
      | true => exact VR.keep keeps ((D.cell i j row a hr ha).2 hx).2 (Refs.all (fun _ _ => trivial) a)
      | false => exact tree i j row a hr ha hx

  obtain ⟨h1, h2⟩ := (G.wr A).new (w' := w.alloc (.cells cs e fz)) hs (by rw [hszw]; omega) hold ⟨false, false, ex, sz, rows⟩ (.slice (some ⟨w.heap.size, 0, none⟩) rows.length c) []
    (fun k => k = w.heap.size ∨ ∃ i j, f i j k) hF hA hX
  refine ⟨_, h1, ?_, h2⟩
  rw [hwalk_eq (x := ⟨false, false, ex, sz, rows⟩) (by rw [put_get, if_pos rfl])]
  simp [walk, gNew]

theorem Good.block {w : World} {wr : Wrs} {ts : List (List Value)} {tm : List Value} {st : St} {g : Gh} (G : Good w wr ts tm st g) {slot : Nat} (hs : st.heap[slot]?.join = none) {ex : Bool} {sz : Nat} {rows : Rows} {cs : Array Value} {f : Nat → Nat → BS} (e : TypeId) (c : Nat)
    (D : Grid w wr st.heap g ex sz rows cs f) (hc : rows.length ≤ c) (hsz : c * sz ≤ cs.size) (hex : ex = true → c = rows.length) (hpos : 0 < sz) :
    ∃ g', Good (w.alloc (.cells cs e (0, 0))) (wrNew wr w.heap.size) ts tm ⟨st.env, st.stk, put st.heap slot (some ⟨false, false, ex, sz, rows⟩)⟩ g' ∧
      hwalk (w.alloc (.cells cs e (0, 0))) (put st.heap slot (some ⟨false, false, ex, sz, rows⟩)) g' slot [] = some (.slice (some ⟨w.heap.size, 0, none⟩) rows.length c, sz, rows) ∧
      Keeps (fun _ _ => True) w st.heap g (w.alloc (.cells cs e (0, 0))) (put st.heap slot (some ⟨false, false, ex, sz, rows⟩)) g' :=
  G.blockF hs e c (0, 0) (fun q _ h => by simp at h) D hc hsz hex hpos

end Go.Abs

/- Soundness 21: the state of a function under way; the plain operations. -/
namespace Go.Abs

/-- what is always so of the world: of blocks that nobody writes -/
structure Env where
  J : World → Prop
  N : Nat
  stable : ∀ w w' : World, J w → (∀ b, b < N → w'.heap[b]? = w.heap[b]?) → w'.os = w.os → w'.tape = w.tape → w'.output = w.output → J w'
structure Ctx where
  E : Env
  w0 : World
  wr0 : CS
  dom0 : CS
  hdom : ∀ b q, w0.heap.size ≤ b → dom0 b q
  hJ : E.J w0
  hN : E.N ≤ w0.heap.size
  hwr : ∀ b q, wr0 b q → E.N ≤ b

structure Inv (C : Ctx) (ts : List (List Value)) (w : World) (a : Act) (st : St) (wr : Wrs) (g : Gh) : Prop where
  good : Good w wr ts a.tmps.toList st g
  fr : Fr C.w0 C.wr0 w
  can : ∀ b q, wr b q → b < C.w0.heap.size → C.wr0 b q
  dom : wr.dom = C.dom0
  nodef : a.defers = []
def InvE (C : Ctx) (ts : List (List Value)) (w : World) (a : Act) (st : St) : Prop := ∃ wr g, Inv C ts w a st wr g
def Post (C : Ctx) (ts : List (List Value)) (c : St → R) (res : Res) : Act → World → Prop := fun a w => ∃ st, c st = some res ∧ InvE C ts w a st

section
variable {P : Program} {cfg : Cfg} {lv : Lev} {C : Ctx} {ts : List (List Value)} {w w' : World} {a : Act} {st : St} {wr : Wrs} {g : Gh} {c : St → R} {res : Res} {o : Oper} {slot : Nat}

theorem Inv.put {v : Value} {av : AV} {d : Option Tmp} (I : Inv C ts w a st wr g) (h : putD st d av c = some res) (H : VR w st.heap g v av) : Post C ts c res (a.put d v) w := by
  obtain ⟨e', h1, h2⟩ := putD_sound h I.good H
  exact ⟨_, h1, wr, g, h2, I.fr, I.can, I.dom, by rw [put_defers]; exact I.nodef⟩

theorem wp_value {next : Act → World → Prop} {Q : Exit → Act → World → Prop} {s : Sem Value} {v : Value} (ho : execOp a.eval o = (do pure (.value (← s)))) (hs : s.run P w = .ok v w') (h : next (a.put o.dst v) w') :
    o.wp P a w next Q := by
  unfold Oper.wp
  rw [ho]
  simp only [Sem.run_bind, hs, Result.andThen_ok, Sem.run_pure]
  exact h
theorem wp_unit {next : Act → World → Prop} {Q : Exit → Act → World → Prop} {s : Sem Unit} (ho : execOp a.eval o = (do s; pure .skip)) (hs : s.run P w = .ok () w') (h : next (a.put o.dst undef) w') :
    o.wp P a w next Q := by
  unfold Oper.wp
  rw [ho]
  simp only [Sem.run_bind, hs, Result.andThen_ok, Sem.run_pure]
  exact h

/-- a nil slice gets a place of its own -/
theorem settle_sound {t : TypeId} {v : Value} {av : AV} {k : AV → St → R} (I : Inv C ts w a st wr g) (h : settle cfg t slot av st k = some res) (H : VR w st.heap g v av) :
    ∃ av' st' g', k av' st' = some res ∧ Inv C ts w a st' wr g' ∧ VR w st'.heap g' v av' := by
  unfold settle at h
  split at h
  · obtain ⟨esz, h⟩ := elemSz_inv h
    obtain ⟨hs, h⟩ := newRoot_inv h
    cases H
    obtain ⟨h1, h2⟩ := I.good.new (w' := w) hs (Nat.le_refl _) (fun _ _ => rfl) ⟨false, false, false, esz, []⟩ (.slice none 0 0) [] (fun _ => False) (fun _ h => h.elim) (fun _ _ _ _ _ h => h.elim) (fun _ => by
      unfold RootR
      simp only [gNew, if_true]
      exact .nil)
    refine ⟨_, _, _, h, ⟨h1, I.fr, I.can, I.dom, I.nodef⟩, .ref (sz := esz) (rows := []) ?_⟩
    rw [hwalk_eq (x := ⟨false, false, false, esz, []⟩) (by rw [put_get, if_pos rfl])]
    simp [walk, gNew]
  · exact ⟨_, _, _, h, I, H⟩

theorem ev_move {x : Operand} {Q : Exit → Act → World → Prop} (ho : o.op = .move x ∨ o.op = .assign x) (h : evOp cfg lv slot o st c = some res) (I : Inv C ts w a st wr g) : o.wp P a w (Post C ts c res) Q := by
  have h : (opnd st.env x fun v => settle cfg o.type slot v st fun v st => putD st o.dst v c) = some res := by rcases ho with ho | ho <;> simpa only [evOp, ho] using h
  obtain ⟨av, h, H⟩ := opnd_sound h I.good.env
  obtain ⟨av', st', g', h, I', H'⟩ := settle_sound I h H
  have hx : execOp a.eval o = pure (.value (a.eval x)) := by rcases ho with ho | ho <;> simp only [execOp, ho]
  unfold Oper.wp
  rw [hx]
  exact I'.put h H'
theorem ev_pick {x y z : Operand} {Q : Exit → Act → World → Prop} (ho : o.op = .pick x y z) (h : evOp cfg lv slot o st c = some res) (I : Inv C ts w a st wr g) : o.wp P a w (Post C ts c res) Q := by
  simp only [evOp, ho] at h
  obtain ⟨av, h, H⟩ := opnd_sound h I.good.env
  split at h
  · rename_i t
    generalize hx : a.eval x = vx at H
    cases H
    unfold Oper.wp
    have hb : execOp a.eval o = (do pure (.value (if ← asBool (a.eval x) then a.eval y else a.eval z))) := by simp only [execOp, ho]
    rw [hb, hx]
    rcases br_inv h with ⟨rfl, h2⟩ | ⟨rfl, h2⟩
    · obtain ⟨av, h2, H⟩ := opnd_sound h2 I.good.env
      exact I.put h2 H
    · obtain ⟨av, h2, H⟩ := opnd_sound h2 I.good.env
      exact I.put h2 H
  · cases h
theorem ev_load (hT : TysOK P cfg.ty) {t : TypeId} {x : Operand} {Q : Exit → Act → World → Prop} (ho : o.op = .load t x) (h : evOp cfg lv slot o st c = some res) (I : Inv C ts w a st wr g) : o.wp P a w (Post C ts c res) Q := by
  simp only [evOp, ho] at h
  obtain ⟨av, h, H⟩ := opnd_sound h I.good.env
  obtain ⟨u, av', h1, h2, h⟩ := loadT_sound (P := P) hT I.good.rel h H
  exact wp_value (by simp only [execOp, ho]) h1 (I.put h h2)
theorem Inv.stored {st' : St} {g' : Gh} {b q : Nat} {us : List Value} (I : Inv C ts w a st wr g) (G : Good (w.setCells b q us) wr ts a.tmps.toList st' g') (hw : ∀ i, i < us.length → wr b (q + i)) : Inv C ts (w.setCells b q us) a st' wr g' :=
  ⟨G, I.fr.setCells (fun i hi hb => I.can _ _ (hw i hi) hb), I.can, I.dom, I.nodef⟩
theorem VR.unit {h : Heap} {g : Gh} : VR w h g Go.undef (.tup []) := .tup .nil
theorem ev_store (hT : TysOK P cfg.ty) {t : TypeId} {x y : Operand} {Q : Exit → Act → World → Prop} (ho : o.op = .store t x y) (h : evOp cfg lv slot o st c = some res) (I : Inv C ts w a st wr g) : o.wp P a w (Post C ts c res) Q := by
  simp only [evOp, ho] at h
  obtain ⟨ax, h, Hx⟩ := opnd_sound h I.good.env
  obtain ⟨ay, h, Hy⟩ := opnd_sound h I.good.env
  obtain ⟨w', st', g', h1, h, G, b, q, us, rfl, hw⟩ := storeT_sound (P := P) hT h I.good Hx Hy
  exact wp_unit (by simp only [execOp, ho]) h1 ((I.stored G hw).put h .unit)
theorem ev_nilCheck {x : Operand} {Q : Exit → Act → World → Prop} (ho : o.op = .nilCheck x) (h : evOp cfg lv slot o st c = some res) (I : Inv C ts w a st wr g) : o.wp P a w (Post C ts c res) Q := by
  simp only [evOp, ho] at h
  obtain ⟨av, h, H⟩ := opnd_sound h I.good.env
  have fin : ∀ v, a.eval x = v → execOp a.eval o = pure (.value v) → Post C ts c res (a.put o.dst v) w → o.wp P a w (Post C ts c res) Q := by
    intro v _ hx hp
    unfold Oper.wp
    rw [hx]
    exact hp
  split at h
  · generalize hx : a.eval x = vx at H
    have H0 := H
    cases H
    exact fin _ hx (by simp only [execOp, ho, hx]) (I.put h H0)
  · generalize hx : a.eval x = vx at H
    have H0 := H
    cases H
    exact fin _ hx (by simp only [execOp, ho, hx]) (I.put h H0)
  · cases h
theorem ev_extract {x : Operand} {i : Nat} {Q : Exit → Act → World → Prop} (ho : o.op = .extract x i) (h : evOp cfg lv slot o st c = some res) (I : Inv C ts w a st wr g) : o.wp P a w (Post C ts c res) Q := by
  simp only [evOp, ho] at h
  obtain ⟨av, h, H⟩ := opnd_sound h I.good.env
  split at h
  · generalize hx : a.eval x = vx at H
    cases H with
    | tup H =>
      obtain ⟨av, h1, h⟩ := getE_inv h
      obtain ⟨v, h2, h3⟩ := H.get h1
      refine wp_value (s := Instr.extract (a.eval x) i) (v := v) (w' := w) (by simp only [execOp, ho]) ?_ (I.put h h3)
      rw [hx]
      simp [Instr.extract, h2]
  · cases h
theorem Fr.alloc {w0 : World} {wr0 : CS} (F : Fr w0 wr0 w) (ob : Obj) : Fr w0 wr0 (w.alloc ob) := by
  refine ⟨F.os, F.tape, F.output, ?_, fun b hb hn => ?_, fun b cs e fz hb => ?_⟩
  · have := F.size
    show _ ≤ (w.heap.push ob).size
    simp
    omega
  · rw [alloc_old (Nat.lt_of_lt_of_le hb F.size)]
    exact F.block b hb hn
  · obtain ⟨cs', h1, h2, h3⟩ := F.cells b cs e fz hb
    refine ⟨cs', ?_, h2, h3⟩
    rw [alloc_old]
    · exact h1
    · rcases Nat.lt_or_ge b w.heap.size with h | h
      · exact h
      · rw [Array.getElem?_eq_none h] at h1; cases h1
theorem Inv.alloc {ob : Obj} {st' : St} {g' : Gh} (I : Inv C ts w a st wr g) (G : Good (w.alloc ob) (wrNew wr w.heap.size) ts a.tmps.toList st' g') : Inv C ts (w.alloc ob) a st' (wrNew wr w.heap.size) g' :=
  ⟨G, I.fr.alloc ob, fun b q hw hb => by
    rcases hw with hw | rfl
    · exact I.can b q hw hb
    · have := I.fr.size
      omega, I.dom, I.nodef⟩
theorem ev_makeFunc {fn : Fn} {fs cs : Array Operand} {Q : Exit → Act → World → Prop} (ho : o.op = .makeFunc fn fs cs) (h : evOp cfg lv slot o st c = some res) (I : Inv C ts w a st wr g) : o.wp P a w (Post C ts c res) Q := by
  simp only [evOp, ho] at h
  split at h
  · rename_i _ f hfs
    obtain ⟨avs, h, H⟩ := opnds_sound I.good.env h
    have hf : fs = #[] := by simpa using hfs
    subst hf
    refine wp_value (s := Instr.makeFunc (.func f) (#[].map a.eval) (cs.map a.eval)) (v := .func (.func f) #[] (cs.map a.eval)) (w' := w) (by simp only [execOp, ho]) (by simp [Instr.makeFunc]) (I.put h ?_)
    have := VR.fn (f := f) H
    rw [show (cs.toList.map a.eval).toArray = cs.map a.eval by rw [← Array.toList_map]] at this
    exact this
  · cases h
theorem zero_tree {z : AV} {u : Value} (h : zv z = some u) (w : World) (K : CS) (S : BS) : TR w true K S u z ∧ isX z = false := by
  cases z <;> simp only [zv, Option.some.injEq] at h <;> try (cases h; done)
  case bool => subst h; exact ⟨.bool _, rfl⟩
  case int => subst h; exact ⟨.int _ _, rfl⟩
  case str => subst h; exact ⟨.str _, rfl⟩
  case nilp => subst h; exact ⟨.nilp, rfl⟩
  case nilf => subst h; exact ⟨.nilf, rfl⟩
  case lst sz rows =>
    split at h
    · cases h; exact ⟨.nil, rfl⟩
    · cases h
/-- the zero cells of a type -/
theorem TyOK.zeros {t : TypeId} {x : TInfo} (h : TyOK P t x) : ∃ i z, P.info? t = some i ∧ i.size = x.size ∧ i.bytes = x.bytes ∧ i.zero = some z ∧ z.cells.size = x.size ∧ x.zero.length = x.size ∧
    ∀ j av, x.zero[j]? = some av → zv av = some (z.cells.getD j default) := by
  obtain ⟨_, ⟨ii, z, hi1, hi2, hi3, hi4, hi5⟩, hzl, _⟩ := h
  have hl := congrArg List.length hi5
  simp only [List.length_map, Array.length_toList] at hl
  refine ⟨ii, z, hi1, hi2, hi3, hi4, by omega, hzl, fun j av ha => ?_⟩
  have := congrArg (·[j]?) hi5
  simp only [List.getElem?_map, ha, Option.map_some] at this
  cases hq : z.cells.toList[j]? with
  | none => rw [hq] at this; simp at this
  | some u =>
    rw [hq] at this
    simp at this
    rw [← this, Array.getD_eq_getD_getElem?, ← Array.getElem?_toList, hq]
    rfl
theorem TyOK.run {t : TypeId} {x : TInfo} (h : TyOK P t x) : ∃ d, (underlying t).run P w = .ok d w ∧ ShOK x.shape d := by
  obtain ⟨⟨d, hd, hs⟩, _⟩ := h
  exact ⟨d, run_underlying hd w, hs⟩
theorem ev_alloc (hT : TysOK P cfg.ty) {t : TypeId} {Q : Exit → Act → World → Prop} (ho : o.op = .alloc t) (h : evOp cfg lv slot o st c = some res) (I : Inv C ts w a st wr g) : o.wp P a w (Post C ts c res) Q := by
  simp only [evOp, ho] at h
  obtain ⟨x, hx, h⟩ := tyK_inv h
  obtain ⟨hs, h⟩ := newRoot_inv h
  obtain ⟨ii, z, hi1, hi2, hi3, hi4, hzc, hzl, hz⟩ := (hT _ hx).zeros
  have D : Grid w wr st.heap g true x.size [x.zero] z.cells (fun _ _ _ => False) := by
    refine ⟨fun row hr => by simp at hr; subst hr; exact hzl, fun i j row av hr ha => ?_, fun _ _ _ h => h.elim, fun _ _ _ _ _ h => h.elim⟩
    cases i with
    | succ i => simp at hr
    | zero =>
      simp at hr
      subst hr
      rw [Nat.zero_mul, Nat.zero_add]
      obtain ⟨k1, k2⟩ := zero_tree (hz j av ha) w (Kr w wr false) (fun _ => False)
      exact ⟨fun _ => k1, fun h => by rw [k2] at h; cases h⟩
  obtain ⟨g', h1, h2, _⟩ := I.good.block (e := t) hs 1 D (by simp) (by simp [hzc]) (fun _ => rfl) (hT _ hx).pos
  exact wp_value (s := Instr.alloc t true (.tuple #[])) (by simp only [execOp, ho])
    (by simp [Instr.alloc, zeroValue, typeInfo, hi1, hi4, newVar, newRow]) ((I.alloc h1).put h (.ptr h2))
end

end Go.Abs

/- Soundness 22: arithmetic and comparison. -/
namespace Go.Abs

theorem both_inv {x y : R} {res : Res} (h : both x y = some res) : x = some res ∧ y = some res := by
  unfold both at h
  split at h
  · rename_i e
    exact ⟨h, e ▸ h⟩
  · cases h
theorem memT_inv {l : List TypeId} {t : TypeId} {k : R} {res : Res} (h : memT l t k = some res) : t ∈ l ∧ k = some res := by
  induction l with
  | nil => simp [memT] at h
  | cons a l ih =>
    simp only [memT] at h
    split at h
    · rename_i e; subst e; exact ⟨by simp, h⟩
    · obtain ⟨h1, h2⟩ := ih h; exact ⟨by simp [h1], h2⟩

def leafV (u : Value) (a : AV) : Prop := match a with
  | .int k n => u = .int k n
  | .bool b => u = .bool b
  | .str s => u = .string s
  | _ => False
/-- two flat rows, compared -/
def eqRows : List AV → List AV → Option Bool
  | [], [] => some true
  | a :: x, b :: y => match a, b with
    | .int c m, .int d n => if c = d then (eqRows x y).map (m == n && ·) else none
    | .bool m, .bool n => (eqRows x y).map (m == n && ·)
    | .str m, .str n => (eqRows x y).map (m == n && ·)
    | _, _ => none
  | _, _ => none
theorem eqCells_inv {m n : List AV} {k : Bool → R} {res : Res} (h : eqCells m n k = some res) : ∃ b, eqRows m n = some b ∧ k b = some res := by
  induction m generalizing n k with
  | nil => cases n with
    | nil => exact ⟨true, rfl, h⟩
    | cons => simp [eqCells] at h
  | cons a m ih => cases n with
    | nil => simp [eqCells] at h
    | cons b n =>
      simp only [eqCells] at h
      split at h
      · split at h
        · rename_i hd
          obtain ⟨t, h1, h2⟩ := ih h
          simp only [decide_eq_true_eq] at hd
          exact ⟨_, by simp [eqRows, hd, h1], h2⟩
        · cases h
      · obtain ⟨t, h1, h2⟩ := ih h
        exact ⟨_, by simp [eqRows, h1], h2⟩
      · obtain ⟨t, h1, h2⟩ := ih h
        exact ⟨_, by simp [eqRows, h1], h2⟩
      · cases h
/-- flat structs of this type are compared cell by cell -/
def EqOK (P : Program) (t : TypeId) : Prop := P.eqGuardType P.depth t = false ∧ ∀ (m n : List AV) (xs ys : List Value) (b : Bool) (w : World), eqRows m n = some b → (∀ (i : Nat) (a : AV), m[i]? = some a → ∃ u, xs[i]? = some u ∧ leafV u a) → (∀ (i : Nat) (a : AV), n[i]? = some a → ∃ u, ys[i]? = some u ∧ leafV u a) →
  xs.length = m.length → ys.length = n.length → (Op.equal t (.agg xs.toArray) (.agg ys.toArray)).run P w = .ok b w

section
variable {P : Program} {cfg : Cfg} {lv : Lev} {C : Ctx} {ts : List (List Value)} {w w' : World} {a : Act} {st : St} {wr : Wrs} {g : Gh} {c : St → R} {res : Res} {o : Oper} {slot : Nat}

theorem ev_unOp {op : UnOp} {t : TypeId} {x : Operand} {Q : Exit → Act → World → Prop} (ho : o.op = .unOp op t x) (h : evOp cfg lv slot o st c = some res) (I : Inv C ts w a st wr g) : o.wp P a w (Post C ts c res) Q := by
  simp only [evOp, ho] at h
  obtain ⟨av, h, H⟩ := opnd_sound h I.good.env
  generalize hx : a.eval x = vx at H
  unfold unOp at h
  split at h
  · cases H
    exact wp_value (s := Op.unary .neg (a.eval x)) (by simp only [execOp, ho]) (by rw [hx]; simp [Op.unary, Op.intArith]) (I.put h (.int _ _))
  · cases H
    exact wp_value (s := Op.unary .not (a.eval x)) (by simp only [execOp, ho]) (by rw [hx]; simp [Op.unary]) (I.put h (.bool _))
  · cases h

theorem intOp_sound {op : BinOp} {kd : IntKind} {m n : Int} {k : AV → R} (h : intOp op kd m n k = some res) (t : TypeId) (hop : op ≠ .shl ∧ op ≠ .shr) :
    ∃ v av, (Go.binOp op t (.int kd m) (.int kd n)).run P w = .ok v w ∧ (∀ h g, VR w h g v av) ∧ k av = some res := by
  cases op <;> simp only [intOp] at h <;> try (cases h; done)
  all_goals first
    | exact absurd rfl hop.1
    | exact absurd rfl hop.2
    | (refine ⟨_, _, ?_, fun _ _ => .int _ _, h⟩
       simp [Go.binOp, Op.intArith, Op.intBits])
    | (refine ⟨_, _, ?_, fun _ _ => .bool _, h⟩
       simp [Go.binOp, Op.intCmp])
    | (rcases br_inv h with ⟨_, h⟩ | ⟨hd, h⟩
       · cases h
       · simp only [decide_eq_false_iff_not] at hd
         refine ⟨_, _, ?_, fun _ _ => .int _ _, h⟩
         simp [Go.binOp, Op.intDiv, hd])
theorem strOp_sound {op : BinOp} {m n : ByteArray} {k : AV → R} (h : strOp op m n k = some res) (t : TypeId) :
    ∃ v av, (Go.binOp op t (.string m) (.string n)).run P w = .ok v w ∧ (∀ h g, VR w h g v av) ∧ k av = some res := by
  cases op <;> simp only [strOp] at h <;> try (cases h; done)
  all_goals first
    | (refine ⟨_, _, ?_, fun _ _ => .bool _, h⟩
       simp [Go.binOp, Op.stringOp])
    | (rcases br_inv h with ⟨hd, h⟩ | ⟨_, h⟩
       · simp only [decide_eq_true_eq] at hd
         refine ⟨_, _, ?_, fun _ _ => .str _, h⟩
         have : ¬ (((m.size + n.size : Nat) : Int) > IntKind.i64.max) := by
           have e : IntKind.i64.max = 9223372036854775807 := by decide
           omega
         simp only [Go.binOp, Op.stringOp, if_neg this]
         rfl
       · cases h)
theorem VRs.leafs {h : Heap} {g : Gh} {m : List AV} {xs : List Value} (H : VRs w h g xs m) (hl : ∀ (i : Nat) (a : AV), m[i]? = some a → (∃ k n, a = .int k n) ∨ (∃ b, a = .bool b) ∨ ∃ s, a = .str s) :
    ∀ (i : Nat) (a : AV), m[i]? = some a → ∃ u, xs[i]? = some u ∧ leafV u a := by
  intro i a ha
  obtain ⟨u, h1, h2⟩ := H.get ha
  refine ⟨u, h1, ?_⟩
  rcases hl i a ha with ⟨k, n, rfl⟩ | ⟨b, rfl⟩ | ⟨s, rfl⟩
  · cases h2; rfl
  · cases h2; rfl
  · cases h2; rfl
theorem eqRows_leaf {m n : List AV} {b : Bool} (h : eqRows m n = some b) : (∀ (i : Nat) (a : AV), m[i]? = some a → (∃ k n, a = .int k n) ∨ (∃ b, a = .bool b) ∨ ∃ s, a = .str s) ∧ (∀ (i : Nat) (a : AV), n[i]? = some a → (∃ k n, a = .int k n) ∨ (∃ b, a = .bool b) ∨ ∃ s, a = .str s) := by
  induction m generalizing n b with
  | nil => cases n with
    | nil => exact ⟨fun i a h => by simp at h, fun i a h => by simp at h⟩
    | cons => simp [eqRows] at h
  | cons x m ih => cases n with
    | nil => simp [eqRows] at h
    | cons y n =>
      simp only [eqRows] at h
      have fin : ∀ t, eqRows m n = some t → ((∃ k n, x = .int k n) ∨ (∃ b, x = .bool b) ∨ ∃ s, x = .str s) → ((∃ k n, y = .int k n) ∨ (∃ b, y = .bool b) ∨ ∃ s, y = .str s) →
          (∀ (i : Nat) (a : AV), (x :: m)[i]? = some a → (∃ k n, a = .int k n) ∨ (∃ b, a = .bool b) ∨ ∃ s, a = .str s) ∧ (∀ (i : Nat) (a : AV), (y :: n)[i]? = some a → (∃ k n, a = .int k n) ∨ (∃ b, a = .bool b) ∨ ∃ s, a = .str s) := by
        intro t ht hx hy
        obtain ⟨h1, h2⟩ := ih ht
        refine ⟨fun i a ha => ?_, fun i a ha => ?_⟩
        · cases i with
          | zero => simp at ha; subst ha; exact hx
          | succ i => exact h1 i a (by simpa using ha)
        · cases i with
          | zero => simp at ha; subst ha; exact hy
          | succ i => exact h2 i a (by simpa using ha)
      split at h
      · split at h
        · cases ht : eqRows m n with
          | none => rw [ht] at h; cases h
          | some t => exact fin t ht (.inl ⟨_, _, rfl⟩) (.inl ⟨_, _, rfl⟩)
        · cases h
      · cases ht : eqRows m n with
        | none => rw [ht] at h; cases h
        | some t => exact fin t ht (.inr (.inl ⟨_, rfl⟩)) (.inr (.inl ⟨_, rfl⟩))
      · cases ht : eqRows m n with
        | none => rw [ht] at h; cases h
        | some t => exact fin t ht (.inr (.inr ⟨_, rfl⟩)) (.inr (.inr ⟨_, rfl⟩))
      · cases h

theorem Rel.nil_of {h : Heap} {g : Gh} (R : Rel w wr h g) {r : Nat} {p : Path} {n cp sz : Nat} {rows : Rows} (hh : hwalk w h g r p = some (.slice none n cp, sz, rows)) : rows.length = 0 := by
  obtain ⟨x, hx, hp, hv⟩ := hwalk_res hh
  obtain ⟨v', hw, hc⟩ := R.walks hx hp hv
  rw [hh] at hw
  cases hw
  rcases hc with ⟨rfl, hb⟩ | ⟨S, ht, _⟩
  · have hR := R.root r x hx
    unfold RootR at hR
    cases hvt : x.virt with
    | true => exact absurd rfl (hv hvt)
    | false =>
      simp only [hvt, hb] at hR
      obtain ⟨b, o, cs, e, fz, f, h1, _⟩ := hR
      rw [hwalk_eq hx] at hh
      simp only [hvt, walk, Option.some.injEq, Prod.mk.injEq] at hh
      rw [h1] at hh
      cases hh.1
  · rcases ht.lst_inv with ⟨rfl, _⟩ | ⟨b, o, c, cs, e, fz, f, h1, _⟩
    · rfl
    · cases h1
theorem eq_bool (n : Nat) {t : TypeId} {x y : Bool} (hd : (underlying t).run P w = .ok .bool w) : (Op.equalIn (n + 1) t (.bool x) (.bool y)).run P w = .ok (x == y) w := by
  simp only [Op.equalIn, Sem.run_bind, hd, Result.andThen_ok]
  rfl
theorem eq_slice (n : Nat) {t e : TypeId} {aa : Option Addr} {l cp : Nat} (hd : (underlying t).run P w = .ok (.slice e) w) : (Op.equalIn (n + 1) t (.slice aa l cp) (.slice none 0 0)).run P w = .ok aa.isNone w := by
  simp only [Op.equalIn, Sem.run_bind, hd, Result.andThen_ok]
  cases aa <;> rfl
theorem eq_ptr (n : Nat) {t e : TypeId} {aa : Option Addr} (hd : (underlying t).run P w = .ok (.pointer e) w) : (Op.equalIn (n + 1) t (.pointer aa) (.pointer none)).run P w = .ok aa.isNone w := by
  simp only [Op.equalIn, Sem.run_bind, hd, Result.andThen_ok]
  cases aa <;> rfl
theorem eq_nilf (n : Nat) {t : TypeId} {x y z} (hd : (underlying t).run P w = .ok (.func x y z) w) : (Op.equalIn (n + 1) t .nilFunc .nilFunc).run P w = .ok true w := by
  simp only [Op.equalIn, Sem.run_bind, hd, Result.andThen_ok]
  rfl
theorem eq_func (n : Nat) {t : TypeId} {x y z} {f : Fn} {c1 c2 : Array Value} (hd : (underlying t).run P w = .ok (.func x y z) w) : (Op.equalIn (n + 1) t (.func f c1 c2) .nilFunc).run P w = .ok false w := by
  simp only [Op.equalIn, Sem.run_bind, hd, Result.andThen_ok]
  rfl
theorem equal_eq (t : TypeId) (x y : Value) : Op.equal t x y = Op.equalIn (9999 + 1) t x y := rfl
/-- comparison of what is neither a number nor a string -/
theorem eqOp_sound (hT : TysOK P cfg.ty) (hE : ∀ t ∈ cfg.eqs, EqOK P t) {t : TypeId} {va vb : Value} {x y : AV} {k : Bool → R} (I : Inv C ts w a st wr g) (h : eqOp cfg t st.heap x y k = some res) (Hx : VR w st.heap g va x) (Hy : VR w st.heap g vb y)
    (op : BinOp) (p q : Operand) : ∃ b, (Op.equal t va vb).run P w = .ok b w ∧ k b = some res ∧ (eqGuard op t p q va vb).run P w = .ok () w ∧ (∀ kd n, va ≠ .int kd n) ∧ (∀ s, va ≠ .string s) ∧ (∀ kd n, va ≠ .float kd n) ∧ (∀ kd m n, va ≠ .complex kd m n) := by
  unfold eqOp at h
  obtain ⟨ti, hti, h⟩ := tyK_inv h
  obtain ⟨d, hd, hsh⟩ := (hT _ hti).run (w := w)
  simp only at hd hsh
  obtain ⟨sh, hs⟩ : ∃ sh, sh = ti.shape := ⟨_, rfl⟩
  rw [← hs] at h hsh
  have noGuard : (∀ xs, va ≠ .agg xs) → va ≠ .nilIface → (eqGuard op t p q va vb).run P w = .ok () w := by
    intro h1 h2
    unfold eqGuard
    cases hm : !(match op with | .eql | .neq => true | _ => false) with
    | true => simp [hm]
    | false =>
      simp only [hm, Bool.false_eq_true, if_false]
      split
      · exact absurd rfl h2
      · exact absurd rfl (h1 _)
      · rfl
  have none_run : ∀ (aa : Option Addr) (n cp e : Nat), d = .slice e → (Op.equal t (.slice aa n cp) (.slice none 0 0)).run P w = .ok aa.isNone w := by
    intro aa n cp e he
    subst he
    rw [equal_eq]
    exact eq_slice 9999 hd
  split at h
  · -- bool
    cases hsh
    cases Hx
    cases Hy
    refine ⟨_, ?_, h, noGuard ((fun _ h => nomatch h)) ((fun h => nomatch h)), (fun _ _ h => nomatch h), (fun _ h => nomatch h), (fun _ _ h => nomatch h), (fun _ _ _ h => nomatch h)⟩
    rw [equal_eq]
    exact eq_bool 9999 hd
  · -- struct
    obtain ⟨hm, h⟩ := memT_inv h
    obtain ⟨b, hb, h⟩ := eqCells_inv h
    obtain ⟨hg, he⟩ := hE t hm
    obtain ⟨l1, l2⟩ := eqRows_leaf hb
    cases Hx with
    | agg H1 =>
      cases Hy with
      | agg H2 =>
        refine ⟨b, he _ _ _ _ b w hb (H1.leafs l1) (H2.leafs l2) H1.length H2.length, h, run_eqGuard_agg w op t p q _ _ hg, (fun _ _ h => nomatch h), (fun _ h => nomatch h), (fun _ _ h => nomatch h), (fun _ _ _ h => nomatch h)⟩
  · cases Hx
    cases Hy
    exact ⟨_, none_run none 0 0 _ hsh, h, noGuard ((fun _ h => nomatch h)) ((fun h => nomatch h)), (fun _ _ h => nomatch h), (fun _ h => nomatch h), (fun _ _ h => nomatch h), (fun _ _ _ h => nomatch h)⟩
  · cases Hy
    cases Hx with
    | ref h1 =>
      obtain ⟨aa, n, cp, rfl, hn⟩ := I.good.rel.slice_of h1
      refine ⟨_, none_run aa n cp _ hsh, ?_, noGuard ((fun _ h => nomatch h)) ((fun h => nomatch h)), (fun _ _ h => nomatch h), (fun _ h => nomatch h), (fun _ _ h => nomatch h), (fun _ _ _ h => nomatch h)⟩
      obtain ⟨x, sz, rows', hres, h⟩ := nav_inv h
      have hrows : rows'.length = n := by
        obtain ⟨x', hx', hr', _⟩ := hwalk_res h1
        simp only [Abs.res, hx', hr', Option.some.injEq, Prod.mk.injEq] at hres
        rw [← hres.2.2, hn]
      rcases br_inv h with ⟨_, h⟩ | ⟨hz, h⟩
      · obtain ⟨h1, h2⟩ := both_inv h
        cases aa <;> assumption
      · simp only [decide_eq_false_iff_not] at hz
        cases aa with
        | none => have := I.good.rel.nil_of h1; omega
        | some => exact h
  · rename_i len _
    cases Hy
    cases Hx with
    | sub h1 hl h2 =>
      have key : ∃ aa cp, va = .slice aa len cp ∧ (aa = none → len = 0) := by
        rcases h2 with ⟨b, o, n, c, c', rfl, rfl, _⟩ | ⟨rfl, a, rfl⟩
        · exact ⟨_, _, rfl, fun h => by cases h⟩
        · exact ⟨_, _, rfl, fun _ => rfl⟩
      obtain ⟨aa, cp, rfl, hn⟩ := key
      refine ⟨_, none_run aa len cp _ hsh, ?_, noGuard ((fun _ h => nomatch h)) ((fun h => nomatch h)), (fun _ _ h => nomatch h), (fun _ h => nomatch h), (fun _ _ h => nomatch h), (fun _ _ _ h => nomatch h)⟩
      rcases br_inv h with ⟨_, h⟩ | ⟨hz, h⟩
      · obtain ⟨h1, h2⟩ := both_inv h
        cases aa <;> assumption
      · simp only [decide_eq_false_iff_not] at hz
        cases aa with
        | none => exact absurd (hn rfl) hz
        | some => exact h
  · cases Hy
    split at h
    · cases Hx
      refine ⟨_, none_run _ 0 0 _ hsh, ?_, noGuard ((fun _ h => nomatch h)) ((fun h => nomatch h)), (fun _ _ h => nomatch h), (fun _ h => nomatch h), (fun _ _ h => nomatch h), (fun _ _ _ h => nomatch h)⟩
      obtain ⟨h1, h2⟩ := both_inv h
      rename_i aa
      cases aa <;> assumption
    · cases h
  · cases hsh
    cases Hx
    cases Hy
    refine ⟨_, ?_, h, noGuard ((fun _ h => nomatch h)) ((fun h => nomatch h)), (fun _ _ h => nomatch h), (fun _ h => nomatch h), (fun _ _ h => nomatch h), (fun _ _ _ h => nomatch h)⟩
    rw [equal_eq]
    exact eq_ptr 9999 hd
  · cases hsh
    cases Hx
    cases Hy
    refine ⟨_, ?_, h, noGuard ((fun _ h => nomatch h)) ((fun h => nomatch h)), (fun _ _ h => nomatch h), (fun _ h => nomatch h), (fun _ _ h => nomatch h), (fun _ _ _ h => nomatch h)⟩
    rw [equal_eq]
    exact eq_ptr 9999 hd
  · obtain ⟨_, _, _, rfl⟩ := hsh
    cases Hx
    cases Hy
    refine ⟨_, ?_, h, noGuard ((fun _ h => nomatch h)) ((fun h => nomatch h)), (fun _ _ h => nomatch h), (fun _ h => nomatch h), (fun _ _ h => nomatch h), (fun _ _ _ h => nomatch h)⟩
    rw [equal_eq]
    exact eq_nilf 9999 hd
  · obtain ⟨_, _, _, rfl⟩ := hsh
    cases Hx
    cases Hy
    refine ⟨_, ?_, h, noGuard ((fun _ h => nomatch h)) ((fun h => nomatch h)), (fun _ _ h => nomatch h), (fun _ h => nomatch h), (fun _ _ h => nomatch h), (fun _ _ _ h => nomatch h)⟩
    rw [equal_eq]
    exact eq_func 9999 hd
  · cases h
theorem eqGuard_plain (op : BinOp) (t : TypeId) (x y : Operand) {va vb : Value} (h1 : ∀ xs, va ≠ .agg xs) (h2 : va ≠ .nilIface) : (eqGuard op t x y va vb).run P w = .ok () w := by
  cases op <;> cases va <;> first | rfl | exact absurd rfl h2 | exact absurd rfl (h1 _)
theorem shOp_sound {op : BinOp} {kd kd' : IntKind} {m n : Int} {k : AV → R} (h : shOp op kd m n k = some res) (t : TypeId) :
    ∃ v av, (Go.binOp op t (.int kd m) (.int kd' n)).run P w = .ok v w ∧ (∀ h g, VR w h g v av) ∧ k av = some res := by
  cases op <;> simp only [shOp] at h <;> try (cases h; done)
  all_goals
    rcases br_inv h with ⟨_, h⟩ | ⟨hd, h⟩
    · cases h
    · simp only [decide_eq_false_iff_not] at hd
      refine ⟨_, _, ?_, fun _ _ => .int _ _, h⟩
      simp [Go.binOp, Op.shift, hd]
theorem binInt_sound {op : BinOp} {kd kd' : IntKind} {m n : Int} {k : AV → R} {hp : Heap} (t : TypeId) (h : binOp cfg op t hp (.int kd m) (.int kd' n) k = some res) :
    ∃ v av, (Go.binOp op t (.int kd m) (.int kd' n)).run P w = .ok v w ∧ (∀ h g, VR w h g v av) ∧ k av = some res := by
  unfold binOp at h
  simp only at h
  split at h
  · exact shOp_sound h t
  · exact shOp_sound h t
  · rename_i n1 n2
    split at h
    · rename_i hd
      simp only [decide_eq_true_eq] at hd
      subst hd
      exact intOp_sound h t ⟨fun e => n1 e, fun e => n2 e⟩
    · cases h
theorem equal_bin {op : BinOp} {t : TypeId} {va vb : Value} {b : Bool} (hop : op = .eql ∨ op = .neq) (h : (Op.equal t va vb).run P w = .ok b w) (h1 : ∀ kd n, va ≠ .int kd n) (h2 : ∀ s, va ≠ .string s) (h3 : ∀ kd n, va ≠ .float kd n) (h4 : ∀ kd m n, va ≠ .complex kd m n) :
    (Go.binOp op t va vb).run P w = .ok (.bool (if op = .eql then b else !b)) w := by
  rcases hop with rfl | rfl
  · have : Go.binOp .eql t va vb = (do pure (.bool (← Op.equal t va vb))) := by
      cases va <;> first | rfl | exact absurd rfl (h1 _ _) | exact absurd rfl (h2 _) | exact absurd rfl (h3 _ _) | exact absurd rfl (h4 _ _ _)
    rw [this]
    simp [h]
  · have : Go.binOp .neq t va vb = (do pure (.bool (!(← Op.equal t va vb)))) := by
      cases va <;> first | rfl | exact absurd rfl (h1 _ _) | exact absurd rfl (h2 _) | exact absurd rfl (h3 _ _) | exact absurd rfl (h4 _ _ _)
    rw [this]
    simp [h]
theorem ev_binOp (hT : TysOK P cfg.ty) (hE : ∀ t ∈ cfg.eqs, EqOK P t) {op : BinOp} {t t' : TypeId} {x y : Operand} {Q : Exit → Act → World → Prop} (ho : o.op = .binOp op t x y t') (h : evOp cfg lv slot o st c = some res) (I : Inv C ts w a st wr g) : o.wp P a w (Post C ts c res) Q := by
  simp only [evOp, ho] at h
  obtain ⟨ax, h, Hx⟩ := opnd_sound h I.good.env
  obtain ⟨ay, h, Hy⟩ := opnd_sound h I.good.env
  have fin : ∀ v av, (eqGuard op t x y (a.eval x) (a.eval y)).run P w = .ok () w → (Go.binOp op t (a.eval x) (a.eval y)).run P w = .ok v w → VR w st.heap g v av → putD st o.dst av c = some res → o.wp P a w (Post C ts c res) Q := by
    intro v av h1 h2 h3 h4
    exact wp_value (s := do eqGuard op t x y (a.eval x) (a.eval y); Go.binOp op t (a.eval x) (a.eval y)) (v := v) (w' := w) (by simp only [execOp, ho]) (by simp only [Sem.run_bind, h1, Result.andThen_ok, h2]) (I.put h4 h3)
  have other : ∀ k : Bool → R, (op = .eql ∨ op = .neq) → eqOp cfg t st.heap ax ay k = some res → (∀ b, k b = putD st o.dst (.bool (if op = .eql then b else !b)) c) → o.wp P a w (Post C ts c res) Q := by
    intro k hop h hk
    obtain ⟨b, h1, h2, h3, h4, h5, h6, h7⟩ := eqOp_sound (P := P) hT hE I h Hx Hy op x y
    rw [hk] at h2
    exact fin _ _ h3 (equal_bin hop h1 h4 h5 h6 h7) (.bool _) h2
  by_cases hint : (∃ k n, ax = .int k n) ∧ ∃ k n, ay = .int k n
  · obtain ⟨⟨k1, n1, rfl⟩, k2, n2, rfl⟩ := hint
    generalize a.eval x = vx at Hx fin
    generalize a.eval y = vy at Hy fin
    cases Hx
    cases Hy
    obtain ⟨v, av, h1, h2, h3⟩ := binInt_sound (P := P) (w := w) t h
    exact fin v av (eqGuard_plain _ _ _ _ (fun _ h => nomatch h) (fun h => nomatch h)) h1 (h2 _ _) h3
  · unfold binOp at h
    split at h
    · exact absurd ⟨⟨_, _, rfl⟩, _, _, rfl⟩ hint
    · generalize a.eval x = vx at Hx fin
      generalize a.eval y = vy at Hy fin
      cases Hx
      cases Hy
      obtain ⟨v, av, h1, h2, h3⟩ := strOp_sound (P := P) (w := w) h t
      exact fin v av (eqGuard_plain _ _ _ _ (fun _ h => nomatch h) (fun h => nomatch h)) h1 (h2 _ _) h3
    · split at h
      · exact other _ (.inl rfl) h (fun b => rfl)
      · exact other _ (.inr rfl) h (fun b => rfl)
      · cases h
end

end Go.Abs

/- Soundness 23: fields, indices, slices. -/
namespace Go.Abs
section
variable {P : Program} {cfg : Cfg} {lv : Lev} {C : Ctx} {ts : List (List Value)} {w w' : World} {a : Act} {st : St} {wr : Wrs} {g : Gh} {c : St → R} {res : Res} {o : Oper} {slot : Nat}

theorem TyOK.struct {t : TypeId} {x : TInfo} {fs : List (Nat × TypeId)} (h : TyOK P t x) (hs : x.shape = .struct fs) : ∃ fa : Array Field, (underlying t).run P w = .ok (.struct fa) w ∧ ∀ (i : Nat) (p : Nat × TypeId), fs[i]? = some p → ∃ f : Field, fa[i]? = some f ∧ f.offset = p.1 ∧ f.type = p.2 := by
  obtain ⟨d, hd, hsh⟩ := h.run (w := w)
  rw [hs] at hsh
  obtain ⟨fa, rfl, hm⟩ := hsh
  refine ⟨fa, hd, fun i p hp => ?_⟩
  subst hm
  simp only [List.getElem?_map, Option.map_eq_some_iff] at hp
  obtain ⟨f, hf, rfl⟩ := hp
  exact ⟨f, by rw [← Array.getElem?_toList]; exact hf, rfl, rfl⟩
theorem TyOK.sized {t : TypeId} {x : TInfo} (h : TyOK P t x) : (sizeOf t).run P w = .ok x.size w := by
  obtain ⟨_, ⟨ii, z, hi1, hi2, _⟩, _⟩ := h
  simp [sizeOf, typeInfo, hi1, hi2]
theorem TyOK.agg {t : TypeId} {x : TInfo} (h : TyOK P t x) : (isAgg t).run P w = .ok (match x.shape with | .struct _ => true | _ => false) w := by
  obtain ⟨d, hd, hsh⟩ := h.run (w := w)
  simp only [isAgg, Sem.run_bind, hd, Result.andThen_ok]
  cases hs : x.shape <;> simp only [hs, ShOK] at hsh
  · subst hsh; rfl
  · subst hsh; rfl
  · subst hsh; rfl
  · subst hsh; rfl
  · subst hsh; rfl
  · obtain ⟨_, _, _, rfl⟩ := hsh; rfl
  · obtain ⟨_, rfl, _⟩ := hsh; rfl

theorem ev_fieldAddr (hT : TysOK P cfg.ty) {s : TypeId} {x : Operand} {f : Nat} {Q : Exit → Act → World → Prop} (ho : o.op = .fieldAddr s x f) (h : evOp cfg lv slot o st c = some res) (I : Inv C ts w a st wr g) : o.wp P a w (Post C ts c res) Q := by
  simp only [evOp, ho] at h
  obtain ⟨av, h, H⟩ := opnd_sound h I.good.env
  obtain ⟨ti, hti, h⟩ := tyK_inv h
  split at h
  · rename_i fs r p i j hs _
    split at h
    · rename_i off ft hf
      obtain ⟨tj, htj, h⟩ := tyK_inv h
      split at h
      · cases h
      · rename_i hne
        generalize hx : a.eval x = vx at H
        cases H with
        | @ptr _ _ _ _ sz rows b oo n cp h1 =>
          obtain ⟨fa, hu, hfs⟩ := (hT _ hti).struct (w := w) hs
          obtain ⟨fd, hf1, hf2, hf3⟩ := hfs _ _ hf
          simp only at hf2 hf3 hu
          refine wp_value (s := Instr.fieldAt s (a.eval x) f) (v := .pointer (some ⟨b, oo + i * sz + (j + off), none⟩)) (w' := w) (by simp only [execOp, ho]) ?_ (I.put h (.ptr h1))
          have hsz := (hT _ htj).sized (w := w)
          simp only at hsz
          simp only [hx, Instr.fieldAt, Sem.run_bind, hu, Result.andThen_ok, hf1, Instr.sureAddr, Sem.run_pure, fieldPlace, hf3, hsz]
          rw [if_neg (fun e => hne e)]
          simp only [Sem.run_pure, Result.andThen_ok, hf2, Addr.add_eq, Nat.add_assoc]
    · cases h
  · cases h

theorem ev_field (hT : TysOK P cfg.ty) {s : TypeId} {x : Operand} {f : Nat} {Q : Exit → Act → World → Prop} (ho : o.op = .field s x f) (h : evOp cfg lv slot o st c = some res) (I : Inv C ts w a st wr g) : o.wp P a w (Post C ts c res) Q := by
  simp only [evOp, ho] at h
  obtain ⟨av, h, H⟩ := opnd_sound h I.good.env
  obtain ⟨ti, hti, h⟩ := tyK_inv h
  split at h
  · rename_i fs cs hs _
    split at h
    · rename_i off ft hf
      obtain ⟨hol, h⟩ := dropK_inv h
      obtain ⟨tj, htj, h⟩ := tyK_inv h
      generalize hx : a.eval x = vx at H
      cases H with
      | @agg vs _ H =>
        obtain ⟨fa, hu, hfs⟩ := (hT _ hti).struct (w := w) hs
        obtain ⟨fd, hf1, hf2, hf3⟩ := hfs _ _ hf
        simp only at hf2 hf3 hu
        have hsz := (hT _ htj).sized (w := w)
        have hag := (hT _ htj).agg (w := w)
        simp only at hsz hag
        have hvl := H.length
        split at h
        · rename_i hst
          obtain ⟨hcl, h⟩ := cut_inv h
          rw [hst] at hag
          simp only at hag
          have hlen : off + tj.size ≤ vs.length := by simp at hcl; omega
          have Hsub : ∀ (n : Nat) {vs : List Value} {cs : List AV}, VRs w st.heap g vs cs → VRs w st.heap g (vs.drop n) (cs.drop n) := by
            intro n
            induction n with
            | zero => intro vs cs H; exact H
            | succ n ih => intro vs cs H; cases H with
              | nil => exact .nil
              | cons _ h2 => exact ih h2
          have Htake : ∀ (n : Nat) {vs : List Value} {cs : List AV}, VRs w st.heap g vs cs → VRs w st.heap g (vs.take n) (cs.take n) := by
            intro n
            induction n with
            | zero => intro vs cs H; exact .nil
            | succ n ih => intro vs cs H; cases H with
              | nil => exact .nil
              | cons h1 h2 => exact .cons h1 (ih h2)
          refine wp_value (s := Instr.field s (a.eval x) f) (v := .agg (vs.toArray.extract off (off + tj.size))) (w' := w) (by simp only [execOp, ho]) ?_ (I.put h ?_)
          · simp only [hx, Instr.field, Sem.run_bind, hu, Result.andThen_ok, hf1, asAgg, Sem.run_pure, part, hf3, hag, hf2, hsz, if_true]
          · have := VR.agg (Htake tj.size (Hsub off H))
            rw [show ((vs.drop off).take tj.size).toArray = vs.toArray.extract off (off + tj.size) by simp] at this
            exact this
        · rename_i hst
          obtain ⟨av, h1, h⟩ := getE_inv h
          have hag' : (isAgg ft).run P w = .ok false w := by
            rw [hag]
            split
            · rename_i fs' hs'
              exact absurd hs' (hst fs')
            · rfl
          rw [List.getElem?_drop] at h1
          obtain ⟨v, h2, h3⟩ := H.get h1
          rw [Nat.add_zero] at h2
          refine wp_value (s := Instr.field s (a.eval x) f) (v := v) (w' := w) (by simp only [execOp, ho]) ?_ (I.put h h3)
          simp [hx, Instr.field, hu, hf1, asAgg, part, hf3, hag', hf2, h2]
    · cases h
  · cases h

theorem Rel.slice_full {hp : Heap} (R : Rel w wr hp g) {r : Nat} {p : Path} {v : Value} {sz : Nat} {rows : Rows} (hh : hwalk w hp g r p = some (v, sz, rows)) :
    (∃ b o cp, v = .slice (some ⟨b, o, none⟩) rows.length cp) ∨ (rows.length = 0 ∧ ∃ a, v = .slice a 0 0) := by
  obtain ⟨x, hx, hp, hv⟩ := hwalk_res hh
  obtain ⟨v', hw, hc⟩ := R.walks hx hp hv
  rw [hh] at hw
  cases hw
  rcases hc with ⟨rfl, hb⟩ | ⟨S, ht, _⟩
  · have hR := R.root r x hx
    unfold RootR at hR
    cases hvt : x.virt with
    | true => exact absurd rfl (hv hvt)
    | false =>
      simp only [hvt, hb] at hR
      obtain ⟨b, o, cs, e, fz, f, h1, _⟩ := hR
      rw [hwalk_eq hx] at hh
      simp only [hvt, walk, Option.some.injEq, Prod.mk.injEq] at hh
      obtain ⟨rfl, rfl, rfl⟩ := hh
      exact .inl ⟨_, _, _, h1⟩
  · rcases ht.lst_inv with ⟨rfl, a, rfl⟩ | ⟨b, o, c, cs, e, fz, f, rfl, _⟩
    · exact .inr ⟨rfl, a, rfl⟩
    · exact .inl ⟨_, _, _, rfl⟩
theorem slice3_sound {hp : Heap} (RL : Rel w wr hp g) {v : Value} {av : AV} {k : Nat → Path → Nat → Nat → Nat → Rows → R} (h : slice3 hp av k = some res) (H : VR w hp g v av) :
    ∃ r p off len sz rows v0, k r p off len sz rows = some res ∧ hwalk w hp g r p = some (v0, sz, rows) ∧ off + len ≤ rows.length ∧
      ((∃ b o n cp c', v0 = .slice (some ⟨b, o, none⟩) n cp ∧ v = .slice (some ⟨b, o + off * sz, none⟩) len c' ∧ len ≤ c' ∧ off + c' ≤ cp) ∨ (len = 0 ∧ ∃ a, v = .slice a 0 0)) := by
  cases H <;> simp only [slice3] at h <;> try (cases h; done)
  · rename_i r p sz rows h1
    obtain ⟨x, sz', rows', hres, h⟩ := nav_inv h
    obtain ⟨x', hx', hr', _⟩ := hwalk_res h1
    simp only [Abs.res, hx', hr', Option.some.injEq, Prod.mk.injEq] at hres
    obtain ⟨_, rfl, rfl⟩ := hres
    refine ⟨r, p, 0, rows.length, sz, rows, v, h, h1, by omega, ?_⟩
    rcases RL.slice_full h1 with ⟨b, o, cp, rfl⟩ | ⟨h0, a, rfl⟩
    · refine .inl ⟨b, o, _, cp, cp, rfl, by simp, ?_, by omega⟩
      obtain ⟨x2, hx2, hp2, hv2⟩ := hwalk_res h1
      obtain ⟨v', hw, hc⟩ := RL.walks hx2 hp2 hv2
      rw [h1] at hw
      cases hw
      rcases hc with ⟨rfl, hb⟩ | ⟨S, ht, _⟩
      · have hR := RL.root r x2 hx2
        unfold RootR at hR
        cases hvt : x2.virt with
        | true => exact absurd rfl (hv2 hvt)
        | false =>
          simp only [hvt, hb] at hR
          obtain ⟨b', o', cs, e, fz, f, k1, _⟩ := hR
          rw [hwalk_eq hx2] at h1
          simp only [hvt, walk, Option.some.injEq, Prod.mk.injEq] at h1
          obtain ⟨h1, rfl, rfl⟩ := h1
          rw [k1] at h1
          cases h1
          exact Nat.le_refl _
      · rcases ht.lst_inv with ⟨rfl, a, hv⟩ | ⟨b', o', c', cs, e, fz, f, hv, _, _, hc', _⟩
        · simp
        · cases hv
          exact hc'
    · exact .inr ⟨h0, a, rfl⟩
  · rename_i r p off len sz rows v0 h1 hl h2
    obtain ⟨x, sz', rows', hres, h⟩ := nav_inv h
    obtain ⟨x', hx', hr', _⟩ := hwalk_res h1
    simp only [Abs.res, hx', hr', Option.some.injEq, Prod.mk.injEq] at hres
    obtain ⟨_, rfl, rfl⟩ := hres
    refine ⟨r, p, off, len, sz, rows, v0, h, h1, hl, ?_⟩
    rcases h2 with ⟨b, o, n, c, c', rfl, rfl, e1, e2⟩ | ⟨rfl, a, rfl⟩
    · exact .inl ⟨b, o, n, c, c', rfl, rfl, e1, e2⟩
    · exact .inr ⟨rfl, a, rfl⟩

theorem elemT_sound (hT : TysOK P cfg.ty) {t : TypeId} {k : Nat → R} (h : elemT cfg t k = some res) : ∃ e n, (underlying t).run P w = .ok (.slice e) w ∧ (sizeOf e).run P w = .ok n w ∧ k n = some res := by
  unfold elemT at h
  obtain ⟨x, hx, h⟩ := tyK_inv h
  split at h
  · rename_i e hs
    obtain ⟨y, hy, h⟩ := tyK_inv h
    obtain ⟨d, hd, hsh⟩ := (hT _ hx).run (w := w)
    simp only [hs, ShOK] at hsh
    subst hsh
    exact ⟨e, _, hd, (hT _ hy).sized, h⟩
  · cases h

theorem ev_indexAddr (hT : TysOK P cfg.ty) {t : TypeId} {x i : Operand} {Q : Exit → Act → World → Prop} (ho : o.op = .indexAddr t x i) (h : evOp cfg lv slot o st c = some res) (I : Inv C ts w a st wr g) : o.wp P a w (Post C ts c res) Q := by
  simp only [evOp, ho] at h
  obtain ⟨av, h, H⟩ := opnd_sound h I.good.env
  obtain ⟨ai, h, Hi⟩ := opnd_sound h I.good.env
  split at h
  · rename_i kd n
    obtain ⟨e, esz, hu, hsz, hA⟩ := elemT_sound (P := P) (w := w) hT h
    obtain ⟨r, p, off, len, sz, rows, v0, hB, hw, hl, hv⟩ := slice3_sound I.good.rel hA H
    clear hA h
    split at hB
    · rename_i hd
      simp only [decide_eq_true_eq] at hd
      subst hd
      rcases br_inv hB with ⟨h0, h⟩ | ⟨_, h⟩
      · rcases br_inv h with ⟨h1, h⟩ | ⟨_, h⟩
        · simp only [decide_eq_true_eq] at h0 h1
          rcases hv with ⟨b, oo, m, cp, c', rfl, hva, _⟩ | ⟨rfl, _⟩
          · generalize hx : a.eval x = vx at H hva
            generalize hi : a.eval i = vi at Hi
            cases Hi
            subst hva
            have fin : putD st o.dst (.ptr r p (off + n.toNat) 0) c = some res → o.wp P a w (Post C ts c res) Q := by
              intro h
              refine wp_value (s := Instr.indexAt t (a.eval x) (a.eval i)) (v := .pointer (some ⟨b, oo + (off + n.toNat) * sz + 0, none⟩)) (w' := w) (by simp only [execOp, ho]) ?_ (I.put h (.ptr hw))
              rw [hx, hi]
              simp only [Instr.indexAt, asIntOf, Sem.run_bind, Sem.run_pure, Result.andThen_ok, hu]
              rw [if_pos ⟨h0, h1⟩]
              simp only [Sem.run_bind, hsz, Result.andThen_ok, Sem.run_pure, Addr.add_eq]
              congr 4
              rw [Nat.add_mul]
              omega
            split at h
            · exact fin (by simpa using h)
            · exact fin h
          · omega
        · cases h
      · cases h
    · cases hB
  · cases h
end

end Go.Abs

/- Soundness 24: slices of slices and strings, conversions, new blocks. -/
namespace Go.Abs
section
variable {P : Program} {cfg : Cfg} {lv : Lev} {C : Ctx} {ts : List (List Value)} {w w' : World} {a : Act} {st : St} {wr : Wrs} {g : Gh} {c : St → R} {res : Res} {o : Oper} {slot : Nat}

theorem loK_sound {h : Heap} {g : Gh} {e : List AV} (H : VRs w h g a.tmps.toList e) {lo : Option Operand} {k : Int → R} (hh : loK e lo k = some res) : ∃ l, k l = some res ∧ ((lo.map a.eval = none ∧ l = 0) ∨ ∃ kd, lo.map a.eval = some (.int kd l)) := by
  cases lo with
  | none => exact ⟨0, hh, .inl ⟨rfl, rfl⟩⟩
  | some x =>
    simp only [loK] at hh
    obtain ⟨av, hh, H⟩ := opnd_sound hh H
    split at hh
    · rename_i kd l
      generalize hx : a.eval x = vx at H
      cases H
      exact ⟨l, hh, .inr ⟨kd, by simp [hx]⟩⟩
    · cases hh
theorem hiK_sound {h : Heap} {g : Gh} {e : List AV} (H : VRs w h g a.tmps.toList e) {hi : Option Operand} {n : Nat} {k : Int → R} (hh : hiK e hi n k = some res) : ∃ l, k l = some res ∧ ((hi.map a.eval = none ∧ l = n) ∨ ∃ kd, hi.map a.eval = some (.int kd l)) := by
  cases hi with
  | none => exact ⟨n, hh, .inl ⟨rfl, rfl⟩⟩
  | some x =>
    simp only [hiK] at hh
    obtain ⟨av, hh, H⟩ := opnd_sound hh H
    split at hh
    · rename_i kd l
      generalize hx : a.eval x = vx at H
      cases H
      exact ⟨l, hh, .inr ⟨kd, by simp [hx]⟩⟩
    · cases hh
theorem bound_run {kd : IntKind} {l : Int} {y : Nat} {cd : BoundsCode} (h0 : 0 ≤ l) (h1 : l ≤ y) : (Instr.sliceBound (.int kd l) y cd).run P w = .ok l.toNat w := by
  simp only [Instr.sliceBound, asIntOf, Sem.run_bind, Sem.run_pure, Result.andThen_ok]
  rw [if_pos ⟨h0, h1⟩]
  rfl
theorem bounds_run {isS : Bool} {len cap : Nat} {lo hi : Option Value} {l g : Int} (hlo : (lo = none ∧ l = 0) ∨ ∃ kd, lo = some (.int kd l)) (hhi : (hi = none ∧ g = len) ∨ ∃ kd, hi = some (.int kd g))
    (h0 : 0 ≤ l) (h1 : l ≤ g) (h2 : g ≤ len) (hc : len ≤ cap) : (Instr.sliceBounds isS len cap lo hi none).run P w = .ok (l.toNat, g.toNat, cap) w := by
  have e1 : ∀ kd cd, (Instr.sliceBound (.int kd g) cap cd).run P w = .ok g.toNat w := fun kd cd => bound_run (by omega) (by omega)
  have e2 : ∀ kd cd, (Instr.sliceBound (.int kd l) g.toNat cd).run P w = .ok l.toNat w := fun kd cd => bound_run h0 (by omega)
  have e3 : ∀ kd cd, g = len → (Instr.sliceBound (.int kd l) len cd).run P w = .ok l.toNat w := fun kd cd _ => bound_run h0 (by omega)
  rcases hlo with ⟨rfl, rfl⟩ | ⟨kd, rfl⟩ <;> rcases hhi with ⟨rfl, hg⟩ | ⟨kd', rfl⟩
  · subst hg; simp [Instr.sliceBounds]
  · simp [Instr.sliceBounds, e1]
  · have := e3 kd .sliceB hg
    subst hg
    simp [Instr.sliceBounds, this]
  · simp [Instr.sliceBounds, e1, e2]

theorem ev_slice (hT : TysOK P cfg.ty) {t : TypeId} {x : Operand} {lo hi mx : Option Operand} {Q : Exit → Act → World → Prop} (ho : o.op = .slice t x lo hi mx) (h : evOp cfg lv slot o st c = some res) (I : Inv C ts w a st wr g) : o.wp P a w (Post C ts c res) Q := by
  simp only [evOp, ho] at h
  cases mx with
  | some _ => cases h
  | none =>
  simp only at h
  obtain ⟨ti, hti, h⟩ := tyK_inv h
  obtain ⟨av, h, H⟩ := opnd_sound h I.good.env
  obtain ⟨l, h, hl⟩ := loK_sound I.good.env h
  obtain ⟨d, hd, hsh⟩ := (hT _ hti).run (w := w)
  simp only at hd hsh
  split at h
  · rename_i hs
    rw [hs] at hsh
    simp only [ShOK] at hsh
    subst hsh
    split at h
    · rename_i s _
      obtain ⟨gg, h, hg⟩ := hiK_sound I.good.env h
      rcases br_inv h with ⟨h0, h⟩ | ⟨_, h⟩
      · rcases br_inv h with ⟨h1, h⟩ | ⟨_, h⟩
        · rcases br_inv h with ⟨h2, h⟩ | ⟨_, h⟩
          · simp only [decide_eq_true_eq] at h0 h1 h2
            generalize hx : a.eval x = vx at H
            cases H
            refine wp_value (s := Instr.sliceAt t (a.eval x) (lo.map a.eval) (hi.map a.eval) none) (v := .string (s.extract l.toNat gg.toNat)) (w' := w) (by simp only [execOp, ho, Option.map_none]) ?_ (I.put h (.str _))
            simp [hx, Instr.sliceAt, Instr.slice, hd, bounds_run (P := P) (w := w) (isS := false) hl hg h0 h1 h2 (Nat.le_refl _)]
          · cases h
        · cases h
      · cases h
    · cases h
  · rename_i e hs
    rw [hs] at hsh
    simp only [ShOK] at hsh
    subst hsh
    obtain ⟨tj, htj, h⟩ := tyK_inv h
    have hsz := (hT _ htj).sized (w := w)
    simp only at hsz
    obtain ⟨r, p, off, len, sz, rows, v0, hB, hw, hlen, hv⟩ := slice3_sound I.good.rel h H
    clear h
    split at hB
    · rename_i hde
      simp only [decide_eq_true_eq] at hde
      rw [← hde] at hsz
      obtain ⟨gg, h, hg⟩ := hiK_sound I.good.env hB
      rcases br_inv h with ⟨h0, h⟩ | ⟨_, h⟩
      · rcases br_inv h with ⟨h1, h⟩ | ⟨_, h⟩
        · rcases br_inv h with ⟨h2, h⟩ | ⟨_, h⟩
          · simp only [decide_eq_true_eq] at h0 h1 h2
            have h : putD st o.dst (.sub r p (off + l.toNat) (gg.toNat - l.toNat)) c = some res := by
              split at h
              · simpa using h
              · exact h
            have fin : ∀ (aa : Option Addr) (cap : Nat) (v : Value), a.eval x = .slice aa len cap → len ≤ cap → v = .slice (if cap = l.toNat then aa else aa.map (·.add (l.toNat * sz))) (gg.toNat - l.toNat) (cap - l.toNat) → SubV v0 (off + l.toNat) sz (gg.toNat - l.toNat) v → o.wp P a w (Post C ts c res) Q := by
              intro aa cap v hx hcap hv hsub
              refine wp_value (s := Instr.sliceAt t (a.eval x) (lo.map a.eval) (hi.map a.eval) none) (v := v) (w' := w) (by simp only [execOp, ho, Option.map_none]) ?_ (I.put h (.sub hw (by omega) hsub))
              simp [hx, hv, Instr.sliceAt, Instr.slice, hd, bounds_run (P := P) (w := w) (isS := true) hl hg h0 h1 h2 hcap, hsz]
            rcases hv with ⟨b, oo, n, cp, c', rfl, hva, hc1, hc2⟩ | ⟨rfl, aa, hva⟩
            · refine fin _ c' _ hva hc1 rfl ?_
              by_cases he : c' = l.toNat
              · rw [if_pos he]
                exact .inr ⟨by omega, _, by rw [show gg.toNat - l.toNat = 0 by omega, show c' - l.toNat = 0 by omega]⟩
              · rw [if_neg he]
                refine .inl ⟨b, oo, n, cp, c' - l.toNat, rfl, ?_, by omega, by omega⟩
                simp only [Option.map_some, Addr.add_eq]
                rw [Nat.add_mul, ← Nat.add_assoc]
            · refine fin _ 0 _ hva (Nat.le_refl _) rfl ?_
              exact .inr ⟨by omega, _, by rw [show gg.toNat - l.toNat = 0 by omega, show 0 - l.toNat = 0 by omega]⟩
          · cases h
        · cases h
      · cases h
    · cases hB
  · cases h

theorem ev_index (hT : TysOK P cfg.ty) {t : TypeId} {x i : Operand} {Q : Exit → Act → World → Prop} (ho : o.op = .index t x i) (h : evOp cfg lv slot o st c = some res) (I : Inv C ts w a st wr g) : o.wp P a w (Post C ts c res) Q := by
  simp only [evOp, ho] at h
  obtain ⟨ti, hti, h⟩ := tyK_inv h
  obtain ⟨d, ht, hsh⟩ := (hT _ hti).run (w := w)
  simp only at ht hsh
  split at h
  · rename_i hs
    rw [hs] at hsh
    simp only [ShOK] at hsh
    subst hsh
    obtain ⟨av, h, H⟩ := opnd_sound h I.good.env
    obtain ⟨ai, h, Hi⟩ := opnd_sound h I.good.env
    split at h
    · rename_i s kd n _
      rcases br_inv h with ⟨h0, h⟩ | ⟨_, h⟩
      · rcases br_inv h with ⟨h1, h⟩ | ⟨_, h⟩
        · simp only [decide_eq_true_eq] at h0 h1
          generalize hx : a.eval x = vx at H
          generalize hi : a.eval i = vi at Hi
          cases H
          cases Hi
          have hlt : n.toNat < s.size := by omega
          refine wp_value (s := Instr.index t (a.eval x) (a.eval i)) (v := .int .u8 ((s[n.toNat]?).getD 0).toNat) (w' := w) (by simp only [execOp, ho]) ?_ (I.put h (.int _ _))
          have hg : s[n.toNat]? = some s[n.toNat] := getElem?_pos s n.toNat hlt
          simp [hx, hi, Instr.index, asIntOf, ht, h0, hg]
        · cases h
      · cases h
    · cases h
  · cases h
end

end Go.Abs

/- Soundness 25: boxes, structs. -/
namespace Go.Abs
section
variable {P : Program} {cfg : Cfg} {lv : Lev} {C : Ctx} {ts : List (List Value)} {w w' : World} {a : Act} {st : St} {wr : Wrs} {g : Gh} {c : St → R} {res : Res} {o : Oper} {slot : Nat}

theorem Hand.get {h : Heap} {ex : Bool} : ∀ {us : List Value} {l : List AV} {Ss : List BS} {j : Nat} {av : AV}, Hand w wr h g ex us l Ss → l[j]? = some av → ∃ u S, us[j]? = some u ∧ Ss[j]? = some S ∧ (isX av = false → TR w true (Kr w wr false) S u av) ∧ (isX av = true → ex = true ∧ VR w h g u av)
  | _, _, _, 0, _, .cons h1 h2 _ _ _, ha => by simp at ha; subst ha; exact ⟨_, _, rfl, rfl, h1, h2⟩
  | _, _, _, j + 1, _, .cons _ _ _ _ h5, ha => by
    obtain ⟨u, S, e1, e2, e3⟩ := Hand.get (j := j) h5 (by simpa using ha)
    exact ⟨u, S, by simpa using e1, by simpa using e2, e3⟩
  | _, _, _, 0, _, .nil, ha => by simp at ha
  | _, _, _, j + 1, _, .nil, ha => by simp at ha
theorem Hand.apart {h : Heap} {ex : Bool} : ∀ {us : List Value} {l : List AV} {Ss : List BS}, Hand w wr h g ex us l Ss → ∀ S ∈ Ss, ∀ k, S k → k < w.heap.size ∧ ∀ r x, h[r]?.join = some x → ¬ g.F r k
  | _, _, _, .nil, _, hS, _, _ => by simp at hS
  | _, _, _, .cons _ _ h3 _ h5, S, hS, k, hk => by
    rcases List.mem_cons.1 hS with rfl | hS
    · exact h3 k hk
    · exact Hand.apart h5 S hS k hk
theorem Hand.own {h : Heap} {ex : Bool} : ∀ {us : List Value} {l : List AV} {Ss : List BS} {i j : Nat} {S S' : BS} {k : Nat}, Hand w wr h g ex us l Ss → Ss[i]? = some S → Ss[j]? = some S' → S k → S' k → i = j
  | _, _, _, 0, 0, _, _, _, _, _, _, _, _ => rfl
  | _, _, _, 0, j + 1, _, _, _, .cons _ _ _ h4 _, hi, hj, h1, h2 => by
    simp at hi hj
    subst hi
    exact absurd h2 (h4 _ (List.mem_of_getElem? hj) _ h1)
  | _, _, _, i + 1, 0, _, _, _, .cons _ _ _ h4 _, hi, hj, h1, h2 => by
    simp at hi hj
    subst hj
    exact absurd h1 (h4 _ (List.mem_of_getElem? hi) _ h2)
  | _, _, _, i + 1, j + 1, _, _, _, .cons _ _ _ _ h5, hi, hj, h1, h2 => by
    have := Hand.own (i := i) (j := j) h5 (by simpa using hi) (by simpa using hj) h1 h2
    omega
  | _, _, _, 0, j + 1, _, _, _, .nil, hi, _, _, _ => by simp at hi
  | _, _, _, i + 1, _, _, _, _, .nil, hi, _, _, _ => by simp at hi
def fOf (Ss : List BS) (j k : Nat) : Prop := ∃ S, Ss[j]? = some S ∧ S k
theorem Hand.grid {h : Heap} {ex : Bool} {us : List Value} {l : List AV} {Ss : List BS} {sz : Nat} (H : Hand w wr h g ex us l Ss) (hl : l.length = sz) : Grid w wr h g ex sz [l] us.toArray (fun i j k => i = 0 ∧ fOf Ss j k) := by
  refine ⟨fun row hr => by simp at hr; subst hr; exact hl, fun i j row av hr ha => ?_, fun i j k hk => ?_, fun i j i' j' k h1 h2 => ?_⟩
  · cases i with
    | succ i => simp at hr
    | zero =>
      simp at hr
      subst hr
      obtain ⟨u, S, e1, e2, e3, e4⟩ := H.get ha
      have e5 : us.toArray.getD (0 * sz + j) default = u := by
        rw [Nat.zero_mul, Nat.zero_add]
        simp [Array.getD_eq_getD_getElem?, e1]
      rw [e5]
      exact ⟨fun hx => (e3 hx).mono (fun k hk => ⟨rfl, S, e2, hk⟩) (fun _ _ _ h => h), e4⟩
  · obtain ⟨_, S, h1, h2⟩ := hk
    exact H.apart S (List.mem_of_getElem? h1) k h2
  · obtain ⟨rfl, S, h3, h4⟩ := h1
    obtain ⟨rfl, S', h5, h6⟩ := h2
    exact ⟨rfl, H.own h3 h5 h4 h6⟩

theorem cellsIn_len {ex : Bool} {us : List Value} {cs : List AV} {Ss : List BS} {st' : St} {g' : Gh} {tm : List Value} (I : Ins w wr ts tm ex us st g cs Ss st' g') : cs.length = us.length := I.hand.length.symm

theorem ev_box (hT : TysOK P cfg.ty) {t : TypeId} {x : Operand} {Q : Exit → Act → World → Prop} (ho : o.op = .box t x) (h : evOp cfg lv slot o st c = some res) (I : Inv C ts w a st wr g) : o.wp P a w (Post C ts c res) Q := by
  simp only [evOp, ho] at h
  obtain ⟨av, h, H⟩ := opnd_sound h I.good.env
  obtain ⟨y, hy, h⟩ := tyK_inv h
  obtain ⟨esz, h⟩ := elemSz_inv h
  obtain ⟨l, h, hl, hln, hvn, _⟩ := partsN_sound I.good.rel h H
  obtain ⟨cs, Ss, st1, g1, h, Is⟩ := cellsIn_sound h I.good hl
  obtain ⟨hs, h⟩ := newRoot_inv h
  have hcl : cs.length = y.size := by rw [cellsIn_len Is, Array.length_toList]; exact hvn
  obtain ⟨g', h1, h2, _⟩ := Is.good.block (e := t) hs 1 (Is.hand.grid hcl) (by simp) (by simp; omega) (fun _ => rfl) (hT _ hy).pos
  have I1 : Inv C ts w a st1 wr g1 := ⟨Is.good, I.fr, I.can, I.dom, I.nodef⟩
  exact wp_value (s := Instr.box t (a.eval x)) (by simp only [execOp, ho])
    (by simp [Instr.box, newVar, newRow]) ((I1.alloc h1).put h (.ptr h2))

/-- cells written into a row from j on -/
def putAt : List Value → Nat → List Value → List Value
  | us, _, [] => us
  | us, j, v :: vs => putAt (us.set j v) (j + 1) vs
theorem place_sound {h : Heap} : ∀ {vs : List Value} {cs : List AV} {us : List Value} {row : List AV} {j : Nat} {k : List AV → R} {res : Res}, place row j cs k = some res → VRs w h g us row → VRs w h g vs cs →
    ∃ row', k row' = some res ∧ VRs w h g (putAt us j vs) row' ∧ (vs ≠ [] → j + vs.length ≤ us.length) ∧ row'.length = row.length
  | _, _, us, row, j, k, res, hh, H1, .nil => ⟨row, hh, H1, fun h => absurd rfl h, rfl⟩
  | _, _, us, row, j, k, res, hh, H1, .cons (vs := vs) h3 h4 => by
    simp only [place] at hh
    obtain ⟨hj, hh⟩ := setE_inv hh
    obtain ⟨row', e1, e2, e3, e4⟩ := place_sound hh (VRs.set h3 H1) h4
    refine ⟨row', e1, e2, fun _ => ?_, by simpa using e4⟩
    have := H1.length
    cases vs with
    | nil => simp; omega
    | cons => have := e3 (by simp); simp at this ⊢; omega
theorem foldl_putAt (off : Nat) : ∀ (l : List Value) (i : Nat) (cs : Array Value), ((l.zipIdx i).foldl (fun cs (x : Value × Nat) => cs.setIfInBounds (off + x.2) x.1) cs).toList = putAt cs.toList (off + i) l
  | [], _, _ => rfl
  | v :: l, i, cs => by
    simp only [List.zipIdx_cons, List.foldl_cons, putAt]
    rw [foldl_putAt off l (i + 1)]
    simp [Nat.add_assoc]
theorem putAt_length : ∀ (vs : List Value) (us : List Value) (j : Nat), (putAt us j vs).length = us.length
  | [], _, _ => rfl
  | v :: vs, us, j => by simp [putAt, putAt_length vs]
end

end Go.Abs

/- Soundness 26: structs built; slices made. -/
namespace Go.Abs
section
variable {P : Program} {cfg : Cfg} {lv : Lev} {C : Ctx} {ts : List (List Value)} {w w' : World} {a : Act} {st : St} {wr : Wrs} {g : Gh} {c : St → R} {res : Res} {o : Oper} {slot : Nat}

inductive PartsR (w : World) (h : Heap) (g : Gh) : List (Nat × Value) → List (Nat × AV) → Prop
  | nil : PartsR w h g [] []
  | cons {i : Nat} {v : Value} {av : AV} {l : List (Nat × Value)} {m : List (Nat × AV)} (h1 : VR w h g v av) (h2 : PartsR w h g l m) : PartsR w h g ((i, v) :: l) ((i, av) :: m)
theorem parts_sound {h : Heap} {e : List AV} (H : VRs w h g a.tmps.toList e) : ∀ {l : List (Nat × Operand)} {k : List (Nat × AV) → R}, parts e l k = some res →
    ∃ m, k m = some res ∧ PartsR w h g (l.map fun x => (x.1, a.eval x.2)) m
  | [], k, hh => ⟨[], hh, .nil⟩
  | (i, x) :: l, k, hh => by
    simp only [parts] at hh
    obtain ⟨av, hh, h1⟩ := opnd_sound hh H
    obtain ⟨m, hh, h2⟩ := parts_sound H hh
    exact ⟨_, hh, .cons h1 h2⟩
theorem mapM_places {fs : List Field} (h : ∀ f ∈ fs, (P.info? f.type).isSome = true) : ∃ places, fs.mapM (fun f => (P.info? f.type).map fun i => (f.offset, i.size)) = some places ∧
    ∀ (i : Nat) (f : Field), fs[i]? = some f → ∃ ii, P.info? f.type = some ii ∧ places[i]? = some (f.offset, ii.size) := by
  induction fs with
  | nil => exact ⟨[], rfl, fun i f h => by simp at h⟩
  | cons f fs ih =>
    obtain ⟨places, h1, h2⟩ := ih (fun f hf => h f (by simp [hf]))
    obtain ⟨ii, hi⟩ := Option.isSome_iff_exists.1 (h f (by simp))
    refine ⟨(f.offset, ii.size) :: places, by simp [List.mapM_cons, hi, h1], fun i f' hf => ?_⟩
    cases i with
    | zero => simp at hf; subst hf; exact ⟨ii, hi, by simp⟩
    | succ i => simpa using h2 i f' (by simpa using hf)
theorem fill_sound (hT : TysOK P cfg.ty) {h : Heap} (R1 : Rel w wr h g) {fs : List (Nat × TypeId)} {places : Nat → Option (Nat × Nat)} (hp : ∀ (i : Nat) (p : Nat × TypeId), fs[i]? = some p → ∃ ii, P.info? p.2 = some ii ∧ places i = some (p.1, ii.size)) :
    ∀ {l : List (Nat × Value)} {m : List (Nat × AV)} {cells : Array Value} {row : List AV} {k : List AV → R}, placeParts cfg fs m row k = some res → PartsR w h g l m → VRs w h g cells.toList row →
    ∃ cells' row', k row' = some res ∧ Instr.fill places cells l = some cells' ∧ VRs w h g cells'.toList row'
  | [], _, cells, row, k, hh, .nil, H => ⟨cells, row, hh, rfl, H⟩
  | (i, v) :: l, (_, av) :: m, cells, row, k, hh, .cons h1 h2, H => by
    simp only [placeParts] at hh
    split at hh
    · rename_i off t hf
      obtain ⟨x, hx, hh⟩ := tyK_inv hh
      split at hh
      · cases hh
      rename_i hne0
      obtain ⟨cs, hh, hv, hcl, hvn, _⟩ := partsN_sound R1 hh h1
      obtain ⟨row', hh, hr, hlen, _⟩ := place_sound hh H hv
      obtain ⟨ii, hi, hpl⟩ := hp i _ hf
      obtain ⟨_, ⟨ii', z, hi1, hi2, _⟩, _⟩ := hT _ hx
      simp only at hi hi1 hi2 hpl
      rw [hi] at hi1
      cases hi1
      have e1 : (v.cells.zipIdx.foldl (fun cs (x : Value × Nat) => cs.setIfInBounds (off + x.2) x.1) cells).toList = putAt cells.toList off v.cells.toList := by
        rw [← Array.foldl_toList, Array.toList_zipIdx]
        simpa using foldl_putAt off v.cells.toList 0 cells
      obtain ⟨cells', row'', k1, k2, k3⟩ := fill_sound hT R1 hp hh h2 (cells := v.cells.zipIdx.foldl (fun cs (x : Value × Nat) => cs.setIfInBounds (off + x.2) x.1) cells) (by rw [e1]; exact hr)
      refine ⟨cells', row'', k1, ?_, k3⟩
      simp only [Instr.fill, hpl]
      have hb : ¬ (off + v.cells.size > cells.size) := by
        by_cases hne : v.cells.toList = []
        · have : v.cells.size = 0 := by rw [← Array.length_toList, hne]; rfl
          exact absurd (by omega) hne0
        · have := hlen hne
          simp at this
          omega
      rw [if_neg]
      · exact k2
      · simp only [ne_eq, Bool.or_eq_true, decide_eq_true_eq, not_or, Decidable.not_not]
        exact ⟨by omega, hb⟩
    · cases hh
theorem zeros_VRs {t : TypeId} {x : TInfo} (hx : TyOK P t x) {h : Heap} {z : Value} {ii : TypeInfo} (hi : P.info? t = some ii) (hz : ii.zero = some z) : VRs w h g z.cells.toList x.zero := by
  obtain ⟨i', z', h1, _, _, h4, h5, h6, h7⟩ := hx.zeros
  rw [hi] at h1
  cases h1
  rw [hz] at h4
  cases h4
  have key : ∀ (l : List AV) (us : List Value), us.length = l.length → (∀ (j : Nat) (av : AV), l[j]? = some av → ∃ u, us[j]? = some u ∧ zv av = some u) → VRs w h g us l := by
    intro l
    induction l with
    | nil => intro us hl _; cases us with
      | nil => exact .nil
      | cons => simp at hl
    | cons av l ih => intro us hl hj; cases us with
      | nil => simp at hl
      | cons u us =>
        refine .cons ?_ (ih us (by simpa using hl) (fun j av' ha => by simpa using hj (j + 1) av' (by simpa using ha)))
        obtain ⟨u', e1, e2⟩ := hj 0 av rfl
        simp at e1
        subst e1
        obtain ⟨k1, _⟩ := zero_tree e2 w (fun _ _ => True) (fun _ => True)
        cases av <;> simp only [zv] at e2 <;> try (cases e2; done)
        all_goals first
          | (simp only [Option.some.injEq] at e2; subst e2; constructor; done)
          | (split at e2
             · simp only [Option.some.injEq] at e2; subst e2; exact .lst
             · cases e2)
  refine key _ _ (by rw [Array.length_toList, h5, h6]) (fun j av ha => ⟨z.cells.getD j default, ?_, h7 j av ha⟩)
  have : j < z.cells.size := by rw [h5, ← h6]; exact (List.getElem?_eq_some_iff.1 ha).1
  rw [Array.getElem?_toList]
  simp [Array.getD_eq_getD_getElem?, this]
theorem ev_build (hT : TysOK P cfg.ty) {t : TypeId} {ps : Array (Nat × Operand)} {Q : Exit → Act → World → Prop} (ho : o.op = .build t ps) (h : evOp cfg lv slot o st c = some res) (I : Inv C ts w a st wr g) : o.wp P a w (Post C ts c res) Q := by
  simp only [evOp, ho] at h
  obtain ⟨x, hx, h⟩ := tyK_inv h
  split at h
  · rename_i fs hs
    obtain ⟨m, h, hm⟩ := parts_sound I.good.env h
    have hxt := hT _ hx
    obtain ⟨⟨d, hd, hsh⟩, ⟨ii, z, hi1, hi2, _, hi4, _⟩, _, _, hfl, _⟩ := hT _ hx
    simp only at hd hsh hi1 hfl hs
    rw [hs] at hsh
    obtain ⟨fa, rfl, hfa⟩ := hsh
    have hinfo : ∀ f ∈ fa.toList, (P.info? f.type).isSome = true := fun f hf => hfl fs hs (f.offset, f.type) (by rw [← hfa]; exact List.mem_map.2 ⟨f, hf, rfl⟩)
    obtain ⟨places, hp1, hp2⟩ := mapM_places hinfo
    have hpl : ∀ (i : Nat) (p : Nat × TypeId), fs[i]? = some p → ∃ ii, P.info? p.2 = some ii ∧ (fun x => places[x]?) i = some (p.1, ii.size) := by
      intro i p hp
      rw [← hfa, List.getElem?_map, Option.map_eq_some_iff] at hp
      obtain ⟨f, hf, rfl⟩ := hp
      exact hp2 i f hf
    obtain ⟨cells, row, h, hfill, hrow⟩ := fill_sound hT I.good.rel hpl h hm (zeros_VRs hxt hi1 hi4)
    have hb : P.built t (ps.map fun (i, x) => (i, a.eval x)).toList = some cells := by
      have e1 : (ps.map fun (i, x) => (i, a.eval x)).toList = ps.toList.map fun x => (x.1, a.eval x.2) := by simp
      rw [e1]
      simp only [Program.built, hi1, hd, hi4, hp1]
      simpa using hfill
    refine wp_value (s := Instr.build t (ps.map fun (i, x) => (i, a.eval x))) (v := .agg cells) (w' := w) (by simp only [execOp, ho]) (run_build w t _ _ hb) (I.put h ?_)
    have := VR.agg hrow
    rwa [Array.toArray_toList] at this
  · cases h
end

end Go.Abs

