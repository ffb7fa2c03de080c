/- An abstract machine for the model's own code, and the proof that what it answers the program answers (part 2): no condition. -/
import Derived.Test.YtpmlbimlndphhaaLib1
import Derived.Great.BuildSlice
import Derived.Laws.IdiomStrings
import Derived.Laws.BytesArg
import Derived.Orders
import Derived.Deep.Slices
import Derived.Carry
import Derived.Below
import Derived.ChangeOld
import Derived.SizedLaws
import Derived.RowKit
import Derived.Laws.BitsLemmas
set_option linter.unusedVariables false
set_option linter.unusedSimpArgs false
/- Soundness 43: what a call handed back gets names. -/
namespace Go.Abs
section
variable {w : World} {res : Res}

inductive TRs (w : World) (own : Bool) (K : CS) : List Value → List AV → List BS → Prop
  | nil : TRs w own K [] [] []
  | cons {v : Value} {a : AV} {S : BS} {vs : List Value} {l : List AV} {Ss : List BS} (h1 : TR w own K S v a) (h2 : TRs w own K vs l Ss) : TRs w own K (v :: vs) (a :: l) (S :: Ss)
theorem TRs.append {own : Bool} {K : CS} : ∀ {vs us : List Value} {l m : List AV} {Ss Rs : List BS}, TRs w own K vs l Ss → TRs w own K us m Rs → TRs w own K (vs ++ us) (l ++ m) (Ss ++ Rs)
  | _, _, _, _, _, _, .nil, h2 => h2
  | _, _, _, _, _, _, .cons h1 h3, h2 => .cons h1 (TRs.append h3 h2)
theorem TRs.get {own : Bool} {K : CS} : ∀ {vs : List Value} {l : List AV} {Ss : List BS} {j : Nat} {a : AV} {v : Value}, TRs w own K vs l Ss → l[j]? = some a → vs[j]? = some v → ∃ S, Ss[j]? = some S ∧ TR w own K S v a
  | _, _, _, 0, _, _, .cons h1 _, ha, hv => by simp at ha hv; subst ha hv; exact ⟨_, rfl, h1⟩
  | _, _, _, j + 1, _, _, .cons _ h2, ha, hv => by
    obtain ⟨S, e1, e2⟩ := TRs.get (j := j) h2 (by simpa using ha) (by simpa using hv)
    exact ⟨S, by simpa using e1, e2⟩
  | _, _, _, 0, _, _, .nil, ha, _ => by simp at ha
  | _, _, _, j + 1, _, _, .nil, ha, _ => by simp at ha
theorem TRs.len {own : Bool} {K : CS} : ∀ {vs : List Value} {l : List AV} {Ss : List BS}, TRs w own K vs l Ss → vs.length = l.length ∧ Ss.length = l.length
  | _, _, _, .nil => ⟨rfl, rfl⟩
  | _, _, _, .cons _ h2 => by have := TRs.len h2; simp [this.1, this.2]
def Aparts (Ss : List BS) : Prop := Ss.Pairwise fun S S' => ∀ k, S k → ¬ S' k

theorem T0s.aparts {K : CS} : ∀ {vs : List Value} {l : List AV} {Ss : List BS}, T0s w true K vs l Ss → Aparts Ss
  | _, _, _, .nil => List.Pairwise.nil
  | _, _, _, .cons _ h2 h3 => List.Pairwise.cons (h2 rfl) (T0s.aparts h3)
theorem T1.aparts {K : CS} {v : Value} {a : AV} {Ss : List BS} (h : T1 w true K v a Ss) : Aparts Ss := by
  cases h with
  | one => exact List.pairwise_singleton _ _
  | agg h => exact h.aparts
theorem T1s.aparts {K : CS} : ∀ {vs : List Value} {l : List AV} {Ss : List BS}, T1s w true K vs l Ss → Aparts Ss
  | _, _, _, .nil => List.Pairwise.nil
  | _, _, _, .cons h1 h2 h3 => List.pairwise_append.2 ⟨h1.aparts, T1s.aparts h3, fun S hS S' hS' => h2 rfl S hS S' hS'⟩
theorem T2.aparts {K : CS} {v : Value} {a : AV} {Ss : List BS} (h : T2 w true K v a Ss) : Aparts Ss := by
  cases h with
  | one h => exact h.aparts
  | tup h => exact h.aparts

/-- a name that is good once the row lies in its root -/
def Nm (slot : Nat) (row : List AV) (G : List Value) (v : Value) (av : AV) : Prop := ∀ (w : World) (h : Heap) (g : Gh) (row' : List AV) (G' : List Value), row <+: row' → G <+: G' →
  (row ≠ [] → (∃ ro box sz, h[slot]?.join = some ⟨ro, true, box, sz, [row']⟩) ∧ g.G slot = G') → VR w h g v av
inductive Nms (slot : Nat) (row : List AV) (G : List Value) : List Value → List AV → Prop
  | nil : Nms slot row G [] []
  | cons {v : Value} {a : AV} {vs : List Value} {l : List AV} (h1 : Nm slot row G v a) (h2 : Nms slot row G vs l) : Nms slot row G (v :: vs) (a :: l)
theorem Nm.more {slot : Nat} {row rX : List AV} {G gX : List Value} {v : Value} {av : AV} (h : Nm slot row G v av) : Nm slot (row ++ rX) (G ++ gX) v av :=
  fun w hh g row' G' h1 h2 h3 => h w hh g row' G' ((List.prefix_append _ _).trans h1) ((List.prefix_append _ _).trans h2) (fun hn => h3 (by simp [hn]))
theorem Nms.more {slot : Nat} {row rX : List AV} {G gX : List Value} : ∀ {vs : List Value} {l : List AV}, Nms slot row G vs l → Nms slot (row ++ rX) (G ++ gX) vs l
  | _, _, .nil => .nil
  | _, _, .cons h1 h2 => .cons h1.more (Nms.more h2)
theorem Nms.vrs {slot : Nat} {row row' : List AV} {G G' : List Value} {h : Heap} {g : Gh} (h1 : row <+: row') (h2 : G <+: G') (h3 : row ≠ [] → (∃ ro box sz, h[slot]?.join = some ⟨ro, true, box, sz, [row']⟩) ∧ g.G slot = G') :
    ∀ {vs : List Value} {l : List AV}, Nms slot row G vs l → VRs w h g vs l
  | _, _, .nil => .nil
  | _, _, .cons e1 e2 => .cons (e1 w h g row' G' h1 h2 h3) (Nms.vrs h1 h2 h3 e2)
theorem addK_inv {l : List AV} {v : AV} {k : Nat → List AV → R} (h : addK l v k = some res) : k l.length (l ++ [v]) = some res := by
  induction l generalizing k with
  | nil => exact h
  | cons a l ih => simpa using ih h

structure Op (w : World) (own : Bool) (K : CS) (slot : Nat) (row : List AV) (Ss : List BS) (rX : List AV) (gX : List Value) (SX : List BS) : Prop where
  trees : TRs w own K gX rX SX
  sub : SX.Sublist Ss
theorem op0_sound {own : Bool} {K : CS} {S : BS} {slot : Nat} {v : Value} {a : AV} {row : List AV} {k : AV → List AV → R} (h : op0 slot a row k = some res) (T : TR w own K S v a) :
    ∃ av rX gX SX, k av (row ++ rX) = some res ∧ Op w own K slot row [S] rX gX SX ∧ ∀ G : List Value, G.length = row.length → Nm slot (row ++ rX) (G ++ gX) v av := by
  have leaf : ∀ a', a' = a → (∀ sz rows, a ≠ .lst sz rows) → k a' row = some res → ∃ av rX gX SX, k av (row ++ rX) = some res ∧ Op w own K slot row [S] rX gX SX ∧ ∀ G : List Value, G.length = row.length → Nm slot (row ++ rX) (G ++ gX) v av := by
    rintro a' rfl hn h
    exact ⟨a', [], [], [], by simpa using h, ⟨.nil, by simp⟩, fun G _ w' hh g row' G' _ _ _ => T.leafVR w' hh g hn⟩
  cases a <;> simp only [op0] at h <;> try (cases h; done)
  case lst sz rows =>
    have h := addK_inv h
    refine ⟨_, [.lst sz rows], [v], [S], h, ⟨.cons T .nil, List.Sublist.refl _⟩, fun G hG w' hh g row' G' h1 h2 h3 => ?_⟩
    obtain ⟨⟨ro, box, sz0, hr⟩, hg⟩ := h3 (by simp)
    have e1 : row'[row.length]? = some (.lst sz rows) := by
      obtain ⟨t, rfl⟩ := h1
      simp [List.getElem?_append]
    have e2 : G'[row.length]? = some v := by
      obtain ⟨t, rfl⟩ := h2
      rw [← hG]
      simp [List.getElem?_append]
    refine .ref (sz := sz) (rows := rows) ?_
    rw [hwalk_eq hr]
    simp only [vwalk, List.getElem?_cons_zero, e1, hg, e2, walk]
  all_goals exact leaf _ rfl (fun _ _ e => by cases e) h
theorem opL0_sound {own : Bool} {K : CS} {slot : Nat} : ∀ {vs : List Value} {l : List AV} {Ss : List BS} {row : List AV} {k : List AV → List AV → R}, opL0 slot l row k = some res → T0s w own K vs l Ss →
    ∃ avs rX gX SX, k avs (row ++ rX) = some res ∧ Op w own K slot row Ss rX gX SX ∧ ∀ G : List Value, G.length = row.length → Nms slot (row ++ rX) (G ++ gX) vs avs
  | _, _, _, row, k, h, .nil => ⟨[], [], [], [], by simpa [opL0] using h, ⟨.nil, List.Sublist.refl _⟩, fun _ _ => .nil⟩
  | _, _, _, row, k, h, .cons h1 _ h3 => by
    simp only [opL0] at h
    obtain ⟨av, rX, gX, SX, h, O1, n1⟩ := op0_sound h h1
    obtain ⟨avs, rY, gY, SY, h, O2, n2⟩ := opL0_sound h h3
    refine ⟨av :: avs, rX ++ rY, gX ++ gY, SX ++ SY, by simpa [List.append_assoc] using h, ⟨O1.trees.append O2.trees, by simpa using O1.sub.append O2.sub⟩, fun G hG => ?_⟩
    have hl := O1.trees.len.1
    rw [← List.append_assoc, ← List.append_assoc]
    exact .cons (n1 G hG).more (n2 (G ++ gX) (by simp [hG, hl]))
theorem op1_sound {own : Bool} {K : CS} {slot : Nat} {v : Value} {a : AV} {Ss : List BS} {row : List AV} {k : AV → List AV → R} (h : op1 slot a row k = some res) (T : T1 w own K v a Ss) :
    ∃ av rX gX SX, k av (row ++ rX) = some res ∧ Op w own K slot row Ss rX gX SX ∧ ∀ G : List Value, G.length = row.length → Nm slot (row ++ rX) (G ++ gX) v av := by
  cases T with
  | one T =>
    have h : op0 slot a row k = some res := by cases T <;> exact h
    exact op0_sound h T
  | agg T =>
    simp only [op1] at h
    obtain ⟨avs, rX, gX, SX, h, O, n⟩ := opL0_sound h T
    exact ⟨_, rX, gX, SX, h, O, fun G hG w' hh g row' G' h1 h2 h3 => .agg (Nms.vrs h1 h2 h3 (n G hG))⟩
theorem opL1_sound {own : Bool} {K : CS} {slot : Nat} : ∀ {vs : List Value} {l : List AV} {Ss : List BS} {row : List AV} {k : List AV → List AV → R}, opL1 slot l row k = some res → T1s w own K vs l Ss →
    ∃ avs rX gX SX, k avs (row ++ rX) = some res ∧ Op w own K slot row Ss rX gX SX ∧ ∀ G : List Value, G.length = row.length → Nms slot (row ++ rX) (G ++ gX) vs avs
  | _, _, _, row, k, h, .nil => ⟨[], [], [], [], by simpa [opL1] using h, ⟨.nil, List.Sublist.refl _⟩, fun _ _ => .nil⟩
  | _, _, _, row, k, h, .cons h1 _ h3 => by
    simp only [opL1] at h
    obtain ⟨av, rX, gX, SX, h, O1, n1⟩ := op1_sound h h1
    obtain ⟨avs, rY, gY, SY, h, O2, n2⟩ := opL1_sound h h3
    refine ⟨av :: avs, rX ++ rY, gX ++ gY, SX ++ SY, by simpa [List.append_assoc] using h, ⟨O1.trees.append O2.trees, O1.sub.append O2.sub⟩, fun G hG => ?_⟩
    have hl := O1.trees.len.1
    rw [← List.append_assoc, ← List.append_assoc]
    exact .cons (n1 G hG).more (n2 (G ++ gX) (by simp [hG, hl]))
theorem op2_sound {own : Bool} {K : CS} {slot : Nat} {v : Value} {a : AV} {Ss : List BS} {row : List AV} {k : AV → List AV → R} (h : op2 slot a row k = some res) (T : T2 w own K v a Ss) :
    ∃ av rX gX SX, k av (row ++ rX) = some res ∧ Op w own K slot row Ss rX gX SX ∧ ∀ G : List Value, G.length = row.length → Nm slot (row ++ rX) (G ++ gX) v av := by
  cases T with
  | one T =>
    have h : op1 slot a row k = some res := by
      cases T with
      | one T => cases T <;> exact h
      | agg T => exact h
    exact op1_sound h T
  | tup T =>
    simp only [op2] at h
    obtain ⟨avs, rX, gX, SX, h, O, n⟩ := opL1_sound h T
    exact ⟨_, rX, gX, SX, h, O, fun G hG w' hh g row' G' h1 h2 h3 => .tup (Nms.vrs h1 h2 h3 (n G hG))⟩

def wrUp (wr : Wrs) (n : Nat) : Wrs := ⟨fun b q => wr b q ∨ n ≤ b, wr.dom⟩
theorem wrUp_agree (wr : Wrs) (n : Nat) : wr.Agree n (wrUp wr n) := ⟨rfl, fun b q hb => ⟨fun h => h.resolve_right (by omega), fun h => .inl h⟩⟩
theorem Good.grow {w w' : World} {wr : Wrs} {ts : List (List Value)} {tm : List Value} {st : St} {g : Gh} (G : Good w wr ts tm st g) (hsz : w.heap.size ≤ w'.heap.size) (hw : ∀ k, k < w.heap.size → w'.heap[k]? = w.heap[k]?) : Good w' wr ts tm st g := by
  have hw' : ∀ r x k, st.heap[r]?.join = some x → g.F r k → w'.heap[k]? = w.heap[k]? := fun r x k hx hF => hw k (G.rel.low r x k hx hF)
  have keeps : Keeps (fun _ _ => True) w st.heap g w' st.heap g := fun r p v sz rows _ hq => ⟨rows, by
    rw [hwalk_same (wr := wr) (fun x hx => G.rel.root r x hx) rfl ⟨rfl, rfl⟩ (fun x k hx hF => hw' r x k hx hF)]; exact hq, rfl⟩
  refine G.keep (SRefs.all (fun _ _ => trivial) st) keeps (G.rel.change (r := st.heap.length) (X := none) (HRefs.all (fun _ _ => trivial) _) keeps (fun r' => ?_) hsz (fun r' x' k _ hx hF => hw' r' x' k hx hF) (fun _ _ => ⟨rfl, rfl, rfl⟩)
    (fun x hx => by cases hx) (fun x hx => by cases hx) (fun x hx => by cases hx))
  by_cases e : r' = st.heap.length
  · subst e; rw [if_pos rfl]; simp
  · rw [if_neg e]
theorem Fr.trans {w0 w1 w2 : World} {wr0 : CS} (A : Fr w0 wr0 w1) (B : Fr w1 Quiet w2) : Fr w0 wr0 w2 := by
  refine ⟨B.os.trans A.os, B.tape.trans A.tape, B.output.trans A.output, Nat.le_trans A.size B.size, fun b hb hn => ?_, fun b cs e fz hb => ?_⟩
  · rw [B.block b (Nat.lt_of_lt_of_le hb A.size) (fun _ h => h)]
    exact A.block b hb hn
  · obtain ⟨cs1, h1, h2, h3⟩ := A.cells b cs e fz hb
    obtain ⟨cs2, h4, h5, h6⟩ := B.cells b cs1 e fz h1
    exact ⟨cs2, h4, h5.trans h2, fun q hq => (h6 q (fun h => h)).trans (h3 q hq)⟩
end
section
variable {C : Ctx} {ts : List (List Value)} {w w' : World} {a : Act} {st : St} {wr : Wrs} {g : Gh} {res : Res} {slot : Nat}
theorem Inv.after (I : Inv C ts w a st wr g) (F : Fr w Quiet w') : Inv C ts w' a st (wrUp wr w.heap.size) g :=
  ⟨(I.good.wr (wrUp_agree wr _)).grow F.size (fun k hk => F.block k hk (fun _ h => h)), I.fr.trans F, fun b q hw hb => by
    rcases hw with hw | hw
    · exact I.can b q hw hb
    · have := I.fr.size; omega, I.dom, I.nodef⟩
theorem opened_sound {own : Bool} {lent : List AV} {v : Value} {av : AV} {k : AV → St → R} (h : opened slot own lent av st k = some res) (I : Inv C ts w a st wr g) (F : Fr w Quiet w') (T : PRes w w' v av) :
    ∃ av' st' wr' g', k av' st' = some res ∧ Inv C ts w' a st' wr' g' ∧ VR w' st'.heap g' v av' := by
  obtain ⟨Ss, T, hSs⟩ := T
  unfold opened at h
  obtain ⟨av', rX, gX, SX, h, O, n⟩ := op2_sound h T
  have I' := I.after F
  simp only [List.nil_append] at h
  have n := n [] rfl
  simp only [List.nil_append] at n
  cases rX with
  | nil => exact ⟨_, st, _, g, h, I', n w' st.heap g [] gX (List.prefix_refl _) (List.prefix_refl _) (fun h => absurd rfl h)⟩
  | cons a0 row =>
    simp only at h
    cases own with
    | false => cases h
    | true =>
      simp only at h
      obtain ⟨hs, h⟩ := newRoot_inv h
      have hsub : ∀ S ∈ SX, ∀ k, S k → w.heap.size ≤ k ∧ k < w'.heap.size := fun S hS => hSs S (O.sub.subset hS)
      have hap : Aparts SX := T.aparts.sublist O.sub
      obtain ⟨h1, h2⟩ := I'.good.new (w' := w') hs (Nat.le_refl _) (fun _ _ => rfl) ⟨false, true, true, 0, [a0 :: row]⟩ Go.undef gX (fun k => ∃ S ∈ SX, S k)
        (fun k ⟨S, hS, hk⟩ => (hsub S hS k hk).2)
        (fun r' x' k hx' _ ⟨S, hS, hk⟩ hF => by
          have := I.good.rel.low r' x' k hx' hF
          have := (hsub S hS k hk).1
          omega)
        (fun _ => by
          unfold RootR
          simp only
          refine ⟨a0 :: row, fOf SX, rfl, by simp only [gNew, if_true]; exact O.trees.len.1, fun j k ⟨S, hj, hk⟩ => ?_, fun _ j j' k ⟨S, hj, hk⟩ ⟨S', hj', hk'⟩ => ?_, fun j a v ha hv => ?_⟩
          · simp only [gNew, if_true]
            exact ⟨S, List.mem_of_getElem? hj, hk⟩
          · obtain ⟨hl, e⟩ := List.getElem?_eq_some_iff.1 hj
            obtain ⟨hl', e'⟩ := List.getElem?_eq_some_iff.1 hj'
            rcases Nat.lt_trichotomy j j' with hlt | heq | hgt
            · have := (List.pairwise_iff_getElem.1 hap) j j' hl hl' hlt k (by rw [e]; exact hk)
              rw [e'] at this
              exact absurd hk' this
            · exact heq
            · have := (List.pairwise_iff_getElem.1 hap) j' j hl' hl hgt k (by rw [e']; exact hk')
              rw [e] at this
              exact absurd hk this
          · simp only [gNew, if_true] at hv
            obtain ⟨S, e1, e2⟩ := O.trees.get ha hv
            exact e2.mono (fun k hk => ⟨S, e1, hk⟩) (fun b q hb hk => ⟨.inr hk.1, hk.2⟩))
      refine ⟨av', _, _, _, h, ⟨h1, I'.fr, I'.can, I'.dom, I'.nodef⟩, n w' _ _ (a0 :: row) gX (List.prefix_refl _) (List.prefix_refl _) (fun _ => ⟨⟨false, true, 0, ?_⟩, ?_⟩)⟩
      · rw [put_get, if_pos rfl]
      · simp [gNew]
end
end Go.Abs

/- Soundness 44: what is one's own is handed over. -/
namespace Go.Abs
section
variable {w : World} {wr : Wrs} {ts : List (List Value)} {tm : List Value} {st : St} {g : Gh} {res : Res}

structure Tk (w : World) (wr : Wrs) (ts : List (List Value)) (tm : List Value) (st : St) (g : Gh) (Ss : List BS) (st' : St) (g' : Gh) : Prop where
  good : Good w wr ts tm st' g'
  less : Less w st.heap g st'.heap g'
  apart : ∀ S ∈ Ss, ∀ k, S k → k < w.heap.size ∧ ∀ r x, st'.heap[r]?.join = some x → ¬ g'.F r k
  was : ∀ S ∈ Ss, ∀ k, S k → ∃ r x, st.heap[r]?.join = some x ∧ g.F r k
theorem Tk.none (G : Good w wr ts tm st g) : Tk w wr ts tm st g [] st g := ⟨G, .refl, fun _ h => by simp at h, fun _ h => by simp at h⟩
theorem Tk.leaf (G : Good w wr ts tm st g) : Tk w wr ts tm st g [fun _ => False] st g := ⟨G, .refl, fun S h k hk => by simp at h; subst h; exact hk.elim, fun S h k hk => by simp at h; subst h; exact hk.elim⟩
theorem Tk.trans {st1 st2 : St} {g1 g2 : Gh} {S1 S2 : List BS} (A : Tk w wr ts tm st g S1 st1 g1) (B : Tk w wr ts tm st1 g1 S2 st2 g2) : Tk w wr ts tm st g (S1 ++ S2) st2 g2 ∧ ∀ S ∈ S1, ∀ S' ∈ S2, ∀ k, S k → ¬ S' k := by
  refine ⟨⟨B.good, A.less.trans B.less, fun S hS k hk => ?_, fun S hS k hk => ?_⟩, fun S hS S' hS' k hk hk' => ?_⟩
  · rcases List.mem_append.1 hS with hS | hS
    · refine ⟨(A.apart S hS k hk).1, fun r x hx hF => ?_⟩
      obtain ⟨x1, hx1, _, _, _, hf⟩ := B.less.flags r x hx
      exact (A.apart S hS k hk).2 r x1 hx1 (hf k hF)
    · exact B.apart S hS k hk
  · rcases List.mem_append.1 hS with hS | hS
    · exact A.was S hS k hk
    · obtain ⟨r, x, hx, hF⟩ := B.was S hS k hk
      obtain ⟨x1, hx1, _, _, _, hf⟩ := A.less.flags r x hx
      exact ⟨r, x1, hx1, hf k hF⟩
  · obtain ⟨r, x, hx, hF⟩ := B.was S' hS' k hk'
    exact (A.apart S hS k hk).2 r x hx hF

theorem ta0_sound {u : Value} {a : AV} {h0 : Heap} {g0 : Gh} {k : AV → St → R} (h : ta0 a st k = some res) (G : Good w wr ts tm st g) (L : Less w h0 g0 st.heap g) (H : VR w h0 g0 u a) :
    ∃ a' S st' g', k a' st' = some res ∧ TR w true (Kr w wr false) S u a' ∧ Tk w wr ts tm st g [S] st' g' := by
  have one : ∀ {S : BS} {v : Value} {sz : Nat} {rows : Rows} {r : Nat} {p : Path} {st' : St} {g' : Gh}, Took w wr ts tm st g r p v sz rows S st' g' → Tk w wr ts tm st g [S] st' g' := by
    intro S v sz rows r p st' g' T
    refine ⟨T.good, T.less, fun S' h k hk => ?_, fun S' h k hk => ?_⟩
    · simp at h; subst h; exact T.apart k hk
    · simp at h; subst h
      obtain ⟨x, hx, _, hf⟩ := T.was
      exact ⟨r, x, hx, hf k hk⟩
  cases H <;> simp only [ta0] at h <;> try (cases h; done)
  · exact ⟨_, _, st, g, h, .bool _, .leaf G⟩
  · exact ⟨_, _, st, g, h, .int _ _, .leaf G⟩
  · exact ⟨_, _, st, g, h, .str _, .leaf G⟩
  · exact ⟨_, _, st, g, h, .nilp, .leaf G⟩
  · rename_i r p sz rows h1
    obtain ⟨v, sz', rows', S, st', g', h, T⟩ := takeL_sound h G
    obtain ⟨rows0, hb0, hlen0⟩ := L.back _ _ _ _ _ T.at_
    rw [h1] at hb0
    cases hb0
    exact ⟨_, S, st', g', h, T.tree, one T⟩
  · rename_i r p off len sz rows v0 h1 hl h2
    obtain ⟨v, sz', rows', S, st', g', h, T⟩ := takeL_sound h G
    obtain ⟨rows0, hb0, hlen0⟩ := L.back _ _ _ _ _ T.at_
    rw [h1] at hb0
    cases hb0
    exact ⟨_, S, st', g', h, T.tree.sub (by omega) h2, one T⟩
  · exact ⟨_, _, st, g, h, .nil, .leaf G⟩
theorem taL0_sound {h0 : Heap} {g0 : Gh} : ∀ {us : List Value} {l : List AV} {st : St} {g : Gh} {k : List AV → St → R}, taL0 l st k = some res → Good w wr ts tm st g → Less w h0 g0 st.heap g → VRs w h0 g0 us l →
    ∃ l' Ss st' g', k l' st' = some res ∧ T0s w true (Kr w wr false) us l' Ss ∧ Tk w wr ts tm st g Ss st' g'
  | _, _, st, g, k, h, G, _, .nil => ⟨[], [], st, g, h, .nil, .none G⟩
  | _, _, st, g, k, h, G, L, .cons h1 h2 => by
    simp only [taL0] at h
    obtain ⟨a', S, st1, g1, h, e1, T1⟩ := ta0_sound h G L h1
    obtain ⟨l', Ss, st2, g2, h, e2, T2⟩ := taL0_sound h T1.good (L.trans T1.less) h2
    obtain ⟨T3, hd⟩ := T1.trans T2
    exact ⟨_, _, st2, g2, h, .cons e1 (fun _ => hd S (by simp)) e2, T3⟩
theorem ta1_sound {u : Value} {a : AV} {h0 : Heap} {g0 : Gh} {k : AV → St → R} (h : ta1 a st k = some res) (G : Good w wr ts tm st g) (L : Less w h0 g0 st.heap g) (H : VR w h0 g0 u a) :
    ∃ a' Ss st' g', k a' st' = some res ∧ T1 w true (Kr w wr false) u a' Ss ∧ Tk w wr ts tm st g Ss st' g' := by
  by_cases hag : ∃ cs, a = .agg cs
  · obtain ⟨cs, rfl⟩ := hag
    cases H with
    | agg H =>
      simp only [ta1] at h
      obtain ⟨l', Ss, st', g', h, e, T⟩ := taL0_sound h G L H
      exact ⟨_, Ss, st', g', h, .agg e, T⟩
  · have h : ta0 a st k = some res := by
      cases a <;> first | exact h | exact absurd ⟨_, rfl⟩ hag
    obtain ⟨a', S, st', g', h, e, T⟩ := ta0_sound h G L H
    exact ⟨_, _, st', g', h, .one e, T⟩
theorem taL1_sound {h0 : Heap} {g0 : Gh} : ∀ {us : List Value} {l : List AV} {st : St} {g : Gh} {k : List AV → St → R}, taL1 l st k = some res → Good w wr ts tm st g → Less w h0 g0 st.heap g → VRs w h0 g0 us l →
    ∃ l' Ss st' g', k l' st' = some res ∧ T1s w true (Kr w wr false) us l' Ss ∧ Tk w wr ts tm st g Ss st' g'
  | _, _, st, g, k, h, G, _, .nil => ⟨[], [], st, g, h, .nil, .none G⟩
  | _, _, st, g, k, h, G, L, .cons h1 h2 => by
    simp only [taL1] at h
    obtain ⟨a', S1, st1, g1, h, e1, T1⟩ := ta1_sound h G L h1
    obtain ⟨l', Ss, st2, g2, h, e2, T2⟩ := taL1_sound h T1.good (L.trans T1.less) h2
    obtain ⟨T3, hd⟩ := T1.trans T2
    exact ⟨_, _, st2, g2, h, .cons e1 (fun _ => hd) e2, T3⟩
theorem ta2_sound {u : Value} {a : AV} {k : AV → St → R} (h : ta2 a st k = some res) (G : Good w wr ts tm st g) (H : VR w st.heap g u a) :
    ∃ a' Ss st' g', k a' st' = some res ∧ T2 w true (Kr w wr false) u a' Ss ∧ Tk w wr ts tm st g Ss st' g' := by
  by_cases hag : ∃ cs, a = .tup cs
  · obtain ⟨cs, rfl⟩ := hag
    cases H with
    | tup H =>
      simp only [ta2] at h
      obtain ⟨l', Ss, st', g', h, e, T⟩ := taL1_sound h G .refl H
      exact ⟨_, Ss, st', g', h, .tup e, T⟩
  · have h : ta1 a st k = some res := by
      cases a <;> first | exact h | exact absurd ⟨_, rfl⟩ hag
    obtain ⟨a', S, st', g', h, e, T⟩ := ta1_sound h G .refl H
    exact ⟨_, _, st', g', h, .one e, T⟩

/-! ### of the blocks, those that hold cells that are known -/
def trimS (w : World) (K : CS) (S : BS) : BS := fun k => S k ∧ k < w.heap.size ∧ ∃ q, K k q
theorem T0s.trim {own : Bool} {K : CS} : ∀ {vs : List Value} {l : List AV} {Ss : List BS}, T0s w own K vs l Ss → T0s w own K vs l (Ss.map (trimS w K))
  | _, _, _, .nil => .nil
  | _, _, _, .cons h1 h2 h3 => .cons h1.trim (fun ho S' hS' k hk hk' => by
      obtain ⟨S, hS, rfl⟩ := List.mem_map.1 hS'
      exact h2 ho S hS k hk.1 hk'.1) (T0s.trim h3)
theorem T1.trim {own : Bool} {K : CS} {v : Value} {a : AV} {Ss : List BS} (h : T1 w own K v a Ss) : T1 w own K v a (Ss.map (trimS w K)) := by
  cases h with
  | one h => exact .one h.trim
  | agg h => exact .agg h.trim
theorem T1s.trim {own : Bool} {K : CS} : ∀ {vs : List Value} {l : List AV} {Ss : List BS}, T1s w own K vs l Ss → T1s w own K vs l (Ss.map (trimS w K))
  | _, _, _, .nil => .nil
  | _, _, _, .cons h1 h2 h3 => by
    rw [List.map_append]
    exact .cons h1.trim (fun ho S hS S' hS' k hk hk' => by
      obtain ⟨R, hR, rfl⟩ := List.mem_map.1 hS
      obtain ⟨R', hR', rfl⟩ := List.mem_map.1 hS'
      exact h2 ho R hR R' hR' k hk.1 hk'.1) (T1s.trim h3)
theorem T2.trim {own : Bool} {K : CS} {v : Value} {a : AV} {Ss : List BS} (h : T2 w own K v a Ss) : T2 w own K v a (Ss.map (trimS w K)) := by
  cases h with
  | one h => exact .one h.trim
  | tup h => exact .tup h.trim
theorem T0s.mono {own : Bool} {K K' : CS} (hK : ∀ b q, K b q → K' b q) : ∀ {vs : List Value} {l : List AV} {Ss : List BS}, T0s w own K vs l Ss → T0s w own K' vs l Ss
  | _, _, _, .nil => .nil
  | _, _, _, .cons h1 h2 h3 => .cons (h1.mono (fun _ h => h) (fun b q _ => hK b q)) h2 (T0s.mono hK h3)
theorem T1.mono {own : Bool} {K K' : CS} (hK : ∀ b q, K b q → K' b q) {v : Value} {a : AV} {Ss : List BS} (h : T1 w own K v a Ss) : T1 w own K' v a Ss := by
  cases h with
  | one h => exact .one (h.mono (fun _ h => h) (fun b q _ => hK b q))
  | agg h => exact .agg (h.mono hK)
theorem T1s.mono {own : Bool} {K K' : CS} (hK : ∀ b q, K b q → K' b q) : ∀ {vs : List Value} {l : List AV} {Ss : List BS}, T1s w own K vs l Ss → T1s w own K' vs l Ss
  | _, _, _, .nil => .nil
  | _, _, _, .cons h1 h2 h3 => .cons (h1.mono hK) h2 (T1s.mono hK h3)
theorem T2.mono {own : Bool} {K K' : CS} (hK : ∀ b q, K b q → K' b q) {v : Value} {a : AV} {Ss : List BS} (h : T2 w own K v a Ss) : T2 w own K' v a Ss := by
  cases h with
  | one h => exact .one (h.mono hK)
  | tup h => exact .tup (h.mono hK)
end
section
variable {C : Ctx} {ts : List (List Value)} {w : World} {a : Act} {st : St} {wr : Wrs} {g : Gh} {res : Res}
/-- the answer of a function that writes nothing that was there -/
theorem Inv.answer (I : Inv C ts w a st wr g) (hq : ∀ b q, ¬ C.wr0 b q) {u : Value} {av : AV} {k : AV → St → R} (h : ta2 av st k = some res) (H : VR w st.heap g u av) : ∃ a' st', k a' st' = some res ∧ PRes C.w0 w u a' := by
  obtain ⟨a', Ss, st', g', h, e, T⟩ := ta2_sound h I.good H
  have e2 : T2 w true (fun b q => C.w0.heap.size ≤ b ∧ w.frozen? ⟨b, q, none⟩ = false) u a' (Ss.map (trimS w (Kr w wr false))) :=
    e.trim.mono (fun b q hk => ⟨Nat.le_of_not_lt fun hlt => hq b q (I.can b q hk.1 hlt), hk.2⟩)
  refine ⟨a', st', h, Ss.map (trimS w (Kr w wr false)), e2, fun S hS k hk => ?_⟩
  obtain ⟨R, _, rfl⟩ := List.mem_map.1 hS
  obtain ⟨_, hlt, q, hkq⟩ := hk
  exact ⟨Nat.le_of_not_lt fun hlt => hq k q (I.can k q hkq.1 hlt), hlt⟩
end
end Go.Abs

/- Soundness 45: the state at the beginning of a call on closed values. -/
namespace Go.Abs
section
variable {w : World} {res : Res}

theorem pushR_inv {h : Heap} {x : Root} {k : Nat → Heap → R} (hh : pushR h x k = some res) : k h.length (h ++ [some x]) = some res := by
  induction h generalizing k with
  | nil => exact hh
  | cons a h ih => simpa using ih hh

/-- roots behind pointers -/
structure HP (w : World) (h : Heap) (ρ : Nat → Value) : Prop where
  pos : ∃ l, h = none :: l
  root : ∀ m x, h[m]?.join = some x → ∃ (cs : List AV) (b o : Nat) (arr : Array Value) (e : TypeId) (fz : Nat × Nat) (vs : List Value), x = ⟨true, false, true, cs.length, [cs]⟩ ∧ ρ m = .slice (some ⟨b, o, none⟩) 1 1 ∧
    w.heap[b]? = some (.cells arr e fz) ∧ o + cs.length ≤ arr.size ∧ (∀ q v, vs[q]? = some v → arr[o + q]? = some v) ∧ Leaves w Any vs cs
/-- what the later heap has of it -/
def Later (row : List AV) (G : List Value) (h : Heap) (ρ : Nat → Value) (hF : Heap) (gF : Gh) : Prop :=
  (∃ row' G', row <+: row' ∧ G <+: G' ∧ hF[0]?.join = some ⟨true, true, true, 0, [row']⟩ ∧ gF.G 0 = G') ∧ ∀ m x, h[m]?.join = some x → hF[m]?.join = some x ∧ gF.ρ m = ρ m
def Nl (row : List AV) (G : List Value) (h : Heap) (ρ : Nat → Value) (v : Value) (av : AV) : Prop := ∀ (w : World) (hF : Heap) (gF : Gh), Later row G h ρ hF gF → VR w hF gF v av
def Nls (row : List AV) (G : List Value) (h : Heap) (ρ : Nat → Value) (vs : List Value) (l : List AV) : Prop := ∀ (w : World) (hF : Heap) (gF : Gh), Later row G h ρ hF gF → VRs w hF gF vs l

structure Grow (w : World) (row : List AV) (G : List Value) (h : Heap) (ρ : Nat → Value) (row' : List AV) (G' : List Value) (h' : Heap) (ρ' : Nat → Value) : Prop where
  pre : row <+: row'
  gs : G <+: G'
  leaves : Leaves w Any G row → Leaves w Any G' row'
  hp : HP w h ρ → HP w h' ρ'
  heap : ∀ m x, h[m]?.join = some x → h'[m]?.join = some x ∧ ρ' m = ρ m
theorem Grow.refl {row : List AV} {G : List Value} {h : Heap} {ρ : Nat → Value} : Grow w row G h ρ row G h ρ := ⟨List.prefix_refl _, List.prefix_refl _, fun h => h, fun h => h, fun _ _ h => ⟨h, rfl⟩⟩
theorem Grow.trans {row row1 row2 : List AV} {G G1 G2 : List Value} {h h1 h2 : Heap} {ρ ρ1 ρ2 : Nat → Value} (A : Grow w row G h ρ row1 G1 h1 ρ1) (B : Grow w row1 G1 h1 ρ1 row2 G2 h2 ρ2) : Grow w row G h ρ row2 G2 h2 ρ2 :=
  ⟨A.pre.trans B.pre, A.gs.trans B.gs, fun h => B.leaves (A.leaves h), fun h => B.hp (A.hp h), fun m x hx => by
    obtain ⟨e1, e2⟩ := A.heap m x hx
    obtain ⟨e3, e4⟩ := B.heap m x e1
    exact ⟨e3, e4.trans e2⟩⟩
theorem Grow.later {row row1 : List AV} {G G1 : List Value} {h h1 : Heap} {ρ ρ1 : Nat → Value} (A : Grow w row G h ρ row1 G1 h1 ρ1) {hF : Heap} {gF : Gh} (L : Later row1 G1 h1 ρ1 hF gF) : Later row G h ρ hF gF := by
  obtain ⟨⟨row', G', e1, e2, e3, e4⟩, L2⟩ := L
  refine ⟨⟨row', G', A.pre.trans e1, A.gs.trans e2, e3, e4⟩, fun m x hx => ?_⟩
  obtain ⟨f1, f2⟩ := A.heap m x hx
  obtain ⟨f3, f4⟩ := L2 m x f1
  exact ⟨f3, f4.trans f2⟩

theorem Leaves.snoc {K : CS} {v : Value} {a : AV} (h : Leaf w K v a) : ∀ {vs : List Value} {l : List AV}, Leaves w K vs l → Leaves w K (vs ++ [v]) (l ++ [a])
  | _, _, .nil => .cons h .nil
  | _, _, .cons h1 h2 => .cons h1 (Leaves.snoc h h2)
theorem Leaves.get {K : CS} : ∀ {vs : List Value} {l : List AV} {j : Nat} {a : AV}, Leaves w K vs l → l[j]? = some a → ∃ v, vs[j]? = some v ∧ Leaf w K v a
  | _, _, 0, _, .cons h1 _, ha => by simp at ha; subst ha; exact ⟨_, rfl, h1⟩
  | _, _, j + 1, _, .cons _ h2, ha => by
    obtain ⟨v, e1, e2⟩ := Leaves.get (j := j) h2 (by simpa using ha)
    exact ⟨v, by simpa using e1, e2⟩
  | _, _, 0, _, .nil, ha => by simp at ha
  | _, _, j + 1, _, .nil, ha => by simp at ha

theorem oa0 {v : Value} {a : AV} {row : List AV} {G : List Value} {h : Heap} {ρ : Nat → Value} {k : AV → List AV → R} (hh : op0 0 a row k = some res) (hG : Leaves w Any G row) (T : Leaf w Any v a) :
    ∃ av row' G', k av row' = some res ∧ Grow w row G h ρ row' G' h ρ ∧ Nl row' G' h ρ v av := by
  have leaf : ∀ a', a' = a → (∀ sz rows, a ≠ .lst sz rows) → k a' row = some res → ∃ av row' G', k av row' = some res ∧ Grow w row G h ρ row' G' h ρ ∧ Nl row' G' h ρ v av := by
    rintro a' rfl hn hk
    exact ⟨a', row, G, hk, .refl, fun w' hF gF _ => TR.leafVR T w' hF gF hn⟩
  cases a <;> simp only [op0] at hh <;> try (cases hh; done)
  case lst sz rows =>
    have hh := addK_inv hh
    refine ⟨_, row ++ [.lst sz rows], G ++ [v], hh, ⟨List.prefix_append _ _, List.prefix_append _ _, fun hl => hl.snoc T, fun h => h, fun _ _ h => ⟨h, rfl⟩⟩, fun w' hF gF L => ?_⟩
    obtain ⟨⟨row', G', e1, e2, e3, e4⟩, _⟩ := L
    have f1 : row'[row.length]? = some (.lst sz rows) := by
      obtain ⟨t, rfl⟩ := e1
      simp
    have f2 : G'[row.length]? = some v := by
      obtain ⟨t, rfl⟩ := e2
      rw [← hG.length]
      simp
    refine .ref (sz := sz) (rows := rows) ?_
    rw [hwalk_eq e3]
    simp only [vwalk, List.getElem?_cons_zero, f1, e4, f2, walk]
  all_goals exact leaf _ rfl (fun _ _ e => by cases e) hh
theorem oaL {h : Heap} {ρ : Nat → Value} : ∀ {vs : List Value} {l : List AV} {row : List AV} {G : List Value} {k : List AV → List AV → R}, opL0 0 l row k = some res → Leaves w Any G row → Leaves w Any vs l →
    ∃ avs row' G', k avs row' = some res ∧ Grow w row G h ρ row' G' h ρ ∧ Nls row' G' h ρ vs avs
  | _, _, row, G, k, hh, _, .nil => ⟨[], row, G, by simpa [opL0] using hh, .refl, fun _ _ _ _ => .nil⟩
  | _, _, row, G, k, hh, hG, .cons h1 h2 => by
    simp only [opL0] at hh
    obtain ⟨av, r1, G1, hh, A, n1⟩ := oa0 (h := h) (ρ := ρ) hh hG h1
    obtain ⟨avs, r2, G2, hh, B, n2⟩ := oaL (h := h) (ρ := ρ) hh (A.leaves hG) h2
    exact ⟨_, r2, G2, hh, A.trans B, fun w' hF gF L => .cons (n1 w' hF gF (B.later L)) (n2 w' hF gF L)⟩
theorem push_get {h : Heap} {x : Root} {m : Nat} : (h ++ [some x])[m]?.join = if m = h.length then some x else h[m]?.join := by
  rcases Nat.lt_trichotomy m h.length with hlt | rfl | hgt
  · rw [List.getElem?_append_left hlt, if_neg (by omega)]
  · simp
  · rw [if_neg (by omega), List.getElem?_eq_none (by simp; omega), List.getElem?_eq_none (by omega)]
theorem push_hp {h : Heap} {ρ : Nat → Value} {b o : Nat} {cs : Array Value} {e : TypeId} {fz : Nat × Nat} {vs : List Value} {l : List AV} {row : List AV} {G : List Value} (hb : w.heap[b]? = some (.cells cs e fz)) (hs : o + l.length ≤ cs.size)
    (hv : ∀ q v, vs[q]? = some v → cs[o + q]? = some v) (hl : Leaves w Any vs l) (hpos : 0 < h.length) :
    Grow w row G h ρ row G (h ++ [some ⟨true, false, true, l.length, [l]⟩]) (fun m => if m = h.length then .slice (some ⟨b, o, none⟩) 1 1 else ρ m) ∧
    Nl row G (h ++ [some ⟨true, false, true, l.length, [l]⟩]) (fun m => if m = h.length then .slice (some ⟨b, o, none⟩) 1 1 else ρ m) (.pointer (some ⟨b, o, none⟩)) (.ptr h.length [] 0 0) := by
  refine ⟨⟨List.prefix_refl _, List.prefix_refl _, fun h => h, fun H => ?_, fun m x hx => ?_⟩, fun w' hF gF L => ?_⟩
  · refine ⟨by obtain ⟨t, rfl⟩ := H.pos; exact ⟨_, rfl⟩, fun m x hx => ?_⟩
    rw [push_get] at hx
    split at hx
    · rename_i hm
      cases hx
      exact ⟨l, b, o, cs, e, fz, vs, rfl, by simp [hm], hb, hs, hv, hl⟩
    · rename_i hm
      obtain ⟨cs', b', o', arr, e', fz', vs', k1, k2, k3⟩ := H.root m x hx
      exact ⟨cs', b', o', arr, e', fz', vs', k1, by simpa [hm] using k2, k3⟩
  · have hm : m ≠ h.length := by
      rintro rfl
      simp at hx
    rw [push_get, if_neg hm]
    exact ⟨hx, by simp [hm]⟩
  · obtain ⟨f1, f2⟩ := L.2 h.length ⟨true, false, true, l.length, [l]⟩ (by rw [push_get, if_pos rfl])
    have := VR.ptr (w := w') (h := hF) (g := gF) (r := h.length) (p := []) (i := 0) (j := 0) (sz := l.length) (rows := [l]) (b := b) (o := o) (n := 1) (c := 1) (by
      rw [hwalk_eq f1]
      simp only [walk, f2, if_true])
    simpa using this
theorem oaC_sound : ∀ {vs : List Value} {l : List AV} {row : List AV} {G : List Value} {h : Heap} {ρ : Nat → Value} {k : List AV → List AV → Heap → R}, oaC true l row h k = some res → Leaves w Any G row → 0 < h.length → PVs w Any vs l →
    ∃ avs row' G' h' ρ', k avs row' h' = some res ∧ Grow w row G h ρ row' G' h' ρ' ∧ Nls row' G' h' ρ' vs avs ∧ 0 < h'.length
  | _, _, row, G, h, ρ, k, hh, _, hp, .nil => ⟨[], row, G, h, ρ, hh, .refl, fun _ _ _ _ => .nil, hp⟩
  | _, a :: l, row, G, h, ρ, k, hh, hG, hp, .cons h1 h2 => by
    cases h1 with
    | pv hb hs hK hv hl =>
      simp only [oaC] at hh
      have hh := pushR_inv hh
      obtain ⟨A, n1⟩ := push_hp (row := row) (G := G) (ρ := ρ) hb hs hv hl hp
      obtain ⟨avs, r2, G2, h', ρ', hh, B, n2, hp'⟩ := oaC_sound hh hG (by simp) h2
      exact ⟨_, r2, G2, h', ρ', hh, A.trans B, fun w' hF gF L => .cons (n1 w' hF gF (B.later L)) (n2 w' hF gF L), hp'⟩
    | leaf T =>
      have hh : (op0 0 a row fun v row => oaC true l row h fun l row h => k (v :: l) row h) = some res := by
        unfold Leaf at T
        cases T <;> exact hh
      obtain ⟨av, r1, G1, hh, A, n1⟩ := oa0 (h := h) (ρ := ρ) hh hG T
      obtain ⟨avs, r2, G2, h', ρ', hh, B, n2, hp'⟩ := oaC_sound (ρ := ρ) hh (A.leaves hG) hp h2
      exact ⟨_, r2, G2, h', ρ', hh, A.trans B, fun w' hF gF L => .cons (n1 w' hF gF (B.later L)) (n2 w' hF gF L), hp'⟩
theorem oa_sound : ∀ {vs : List Value} {l : List AV} {row : List AV} {G : List Value} {h : Heap} {ρ : Nat → Value} {k : List AV → List AV → Heap → R}, oa true l row h k = some res → Leaves w Any G row → 0 < h.length → ARs w Any vs l →
    ∃ avs row' G' h' ρ', k avs row' h' = some res ∧ Grow w row G h ρ row' G' h' ρ' ∧ Nls row' G' h' ρ' vs avs ∧ 0 < h'.length
  | _, _, row, G, h, ρ, k, hh, _, hp, .nil => ⟨[], row, G, h, ρ, hh, .refl, fun _ _ _ _ => .nil, hp⟩
  | _, a :: l, row, G, h, ρ, k, hh, hG, hp, .cons h1 h2 => by
    cases h1 with
    | pv h1 =>
      cases h1 with
      | pv hb hs hK hv hl =>
        simp only [oa] at hh
        have hh := pushR_inv hh
        obtain ⟨A, n1⟩ := push_hp (row := row) (G := G) (ρ := ρ) hb hs hv hl hp
        obtain ⟨avs, r2, G2, h', ρ', hh, B, n2, hp'⟩ := oa_sound hh hG (by simp) h2
        exact ⟨_, r2, G2, h', ρ', hh, A.trans B, fun w' hF gF L => .cons (n1 w' hF gF (B.later L)) (n2 w' hF gF L), hp'⟩
      | leaf T =>
        have hh : (op0 0 a row fun v row => oa true l row h fun l row h => k (v :: l) row h) = some res := by
          unfold Leaf at T
          cases T <;> exact hh
        obtain ⟨av, r1, G1, hh, A, n1⟩ := oa0 (h := h) (ρ := ρ) hh hG T
        obtain ⟨avs, r2, G2, h', ρ', hh, B, n2, hp'⟩ := oa_sound (ρ := ρ) hh (A.leaves hG) hp h2
        exact ⟨_, r2, G2, h', ρ', hh, A.trans B, fun w' hF gF L => .cons (n1 w' hF gF (B.later L)) (n2 w' hF gF L), hp'⟩
    | agg T =>
      simp only [oa] at hh
      obtain ⟨av, r1, G1, hh, A, n1⟩ := oaL (h := h) (ρ := ρ) hh hG T
      obtain ⟨avs, r2, G2, h', ρ', hh, B, n2, hp'⟩ := oa_sound (ρ := ρ) hh (A.leaves hG) hp h2
      exact ⟨_, r2, G2, h', ρ', hh, A.trans B, fun w' hF gF L => .cons (.agg (n1 w' hF gF (B.later L))) (n2 w' hF gF L), hp'⟩
    | fn T =>
      simp only [oa] at hh
      obtain ⟨av, r1, G1, h1', ρ1, hh, A, n1, hp1⟩ := oaC_sound (ρ := ρ) hh hG hp T
      obtain ⟨avs, r2, G2, h', ρ', hh, B, n2, hp'⟩ := oa_sound (ρ := ρ1) hh (A.leaves hG) hp1 h2
      exact ⟨_, r2, G2, h', ρ', hh, A.trans B, fun w' hF gF L => .cons (.fn (n1 w' hF gF (B.later L))) (n2 w' hF gF L), hp'⟩

/-- at the beginning -/
theorem openArgs_sound {vs : List Value} {l : List AV} {k : List AV → Heap → R} (hh : openArgs true l k = some res) (H : ARs w Any vs l) :
    ∃ avs h g, k avs h = some res ∧ Rel w ⟨Quiet, Any⟩ h g ∧ VRs w h g vs avs := by
  unfold openArgs at hh
  obtain ⟨avs, row, G, h, ρ, hh, A, n, _⟩ := oa_sound (ρ := fun _ => Go.undef) (G := []) hh .nil (by simp) H
  have hh := setH_inv hh
  have hl := A.leaves .nil
  have hhp := A.hp ⟨⟨[], rfl⟩, fun m x hx => by
    cases m with
    | zero => simp at hx
    | succ m => simp at hx⟩
  obtain ⟨t, ht⟩ := hhp.pos
  have get : ∀ m, (put h 0 (some ⟨true, true, true, 0, [row]⟩))[m]?.join = if m = 0 then some ⟨true, true, true, 0, [row]⟩ else h[m]?.join := fun m => put_get _ _ _ _
  refine ⟨avs, _, ⟨ρ, fun _ => G, fun _ k => k < w.heap.size⟩, hh, ⟨fun r x hx => ?_, fun r x r' x' k hx hx' hne hro => ?_, fun r x k hx hF => hF⟩, n w _ _ ⟨⟨row, G, List.prefix_refl _, List.prefix_refl _, by rw [get, if_pos rfl], rfl⟩, fun m x hx => ?_⟩⟩
  · rw [get] at hx
    unfold RootR
    split at hx
    · cases hx
      simp only
      refine ⟨row, fun _ k => k < w.heap.size, rfl, hl.length, fun _ _ h => h, (fun h => nomatch h), fun j a v ha hv => ?_⟩
      obtain ⟨v', e1, e2⟩ := hl.get ha
      simp only at hv
      rw [e1] at hv
      cases hv
      exact TR.mono e2 (fun _ h => h) (fun b q _ _ => ⟨fun h => h, trivial⟩)
    · obtain ⟨cs, b, o, arr, e, fz, vs', rfl, k2, k3, k4, k5, k6⟩ := hhp.root r x hx
      simp only
      refine ⟨b, o, arr, e, fz, fun _ _ k => k < w.heap.size, k2, k3, by simpa using k4, fun row' hr => by simp at hr; rw [hr], fun q _ _ => ⟨fun h => h, trivial⟩, get_lt k3, fun _ _ _ h => h, (fun h => nomatch h), fun i j row' a hr ha => ?_⟩
      cases i with
      | succ i => simp at hr
      | zero =>
        simp at hr
        subst hr
        obtain ⟨v', e1, e2⟩ := k6.get ha
        have e3 : arr.getD (o + 0 * cs.length + j) default = v' := by
          rw [Nat.zero_mul, Nat.add_zero]
          exact getD_of (k5 j v' e1)
        rw [e3]
        unfold CellB
        rw [(kV1_TR 0 [] e2).2]
        exact TR.mono e2 (fun _ h => h) (fun b q _ _ => ⟨fun h => h, trivial⟩)
  · have ro : ∀ (m : Nat) (y : Root), (put h 0 (some ⟨true, true, true, 0, [row]⟩))[m]?.join = some y → y.ro = true := by
      intro m y hy
      rw [get] at hy
      split at hy
      · cases hy; rfl
      · obtain ⟨_, _, _, _, _, _, _, rfl, _⟩ := hhp.root m y hy
        rfl
    rw [ro r x hx] at hro
    cases hro
  · rw [get]
    have hm : m ≠ 0 := by
      rintro rfl
      rw [ht] at hx
      simp at hx
    rw [if_neg hm]
    exact ⟨hx, rfl⟩
end
end Go.Abs

/- Soundness 62: what goes into a call that writes behind a pointer. -/
namespace Go.Abs
section
variable {P : Program} {cfg : Cfg} {w : World} {wr : Wrs} {hp : Heap} {g : Gh} {res : Res}
theorem splitA_inv {α : Type} : ∀ {n : Nat} {l : List α} {k : List α → α → List α → R}, splitA n l k = some res → ∃ x y z, l = x ++ y :: z ∧ x.length = n ∧ k x y z = some res
  | 0, [], k, h => by simp [splitA] at h
  | 0, a :: l, k, h => ⟨[], a, l, rfl, rfl, h⟩
  | n + 1, [], k, h => by simp [splitA] at h
  | n + 1, a :: l, k, h => by
    simp only [splitA] at h
    obtain ⟨x, y, z, e1, e2, h⟩ := splitA_inv h
    exact ⟨a :: x, y, z, by rw [e1]; rfl, by rw [List.length_cons, e2], h⟩
theorem VRs.app_inv {h : Heap} : ∀ {x : List AV} {z : List AV} {vs : List Value}, VRs w h g vs (x ++ z) → ∃ xs zs, vs = xs ++ zs ∧ VRs w h g xs x ∧ VRs w h g zs z
  | [], z, vs, H => ⟨[], vs, rfl, .nil, H⟩
  | a :: x, z, _, .cons h1 h2 => by
    obtain ⟨xs, zs, e, k1, k2⟩ := VRs.app_inv h2
    exact ⟨_ :: xs, zs, by rw [e]; rfl, .cons h1 k1, k2⟩
/-- blocks of other roots -/
def Oth (hp : Heap) (g : Gh) (r : Nat) (S : BS) : Prop := ∀ k, S k → ∃ r' x, r' ≠ r ∧ hp[r']?.join = some x ∧ g.F r' k
theorem ioc0_sound (RL : Rel w wr hp g) {r esz : Nat} {v : Value} {a : AV} {k : AV → R} (h : ioc0 hp r esz a k = some res) (H : VR w hp g v a) : ∃ a' S, k a' = some res ∧ TR w false Any S v a' ∧ Oth hp g r S := by
  have lst : ∀ (r' : Nat) (p : Path) (x : Root) (v0 : Value) (sz : Nat) (rows : Rows), r' ≠ r → hwalk w hp g r' p = some (v0, sz, rows) → hp[r']?.join = some x → ¬ (x.box = true ∧ p = []) → ∃ S, TR w false Any S v0 (.lst sz rows) ∧ Oth hp g r S := by
    intro r' p x v0 sz rows hr' hw hx hn
    obtain ⟨x', hx', hr, hv⟩ := hwalk_res hw
    rw [hx] at hx'
    cases hx'
    obtain ⟨v', hw', hc⟩ := RL.walks hx hr hv
    rw [hw] at hw'
    cases hw'
    rcases hc with ⟨h1, h2⟩ | ⟨S, ht, hS⟩
    · exact absurd ⟨h2, h1⟩ hn
    · exact ⟨_, ht.low.mono (fun _ h => h) (fun _ _ _ _ => trivial), fun k hk => ⟨r', x, hr', hx, hS k hk.1⟩⟩
  have no : Oth hp g r fun _ => False := fun k hk => hk.elim
  cases H <;> simp only [ioc0, cl0] at h <;> try (cases h; done)
  · exact ⟨_, _, h, TR.bool _, no⟩
  · exact ⟨_, _, h, TR.int _ _, no⟩
  · exact ⟨_, _, h, TR.str _, no⟩
  · exact ⟨_, _, h, TR.nilp, no⟩
  · exact ⟨_, _, h, TR.nilf, no⟩
  · exact ⟨_, _, h, TR.nil, no⟩
  · rename_i r' p sz rows h1
    split at h
    · cases h
    rename_i hne
    obtain ⟨x, sz', rows', hres, h⟩ := nav_inv h
    obtain ⟨x', hx', hr', _⟩ := hwalk_res h1
    simp only [Abs.res, hx', hr', Option.some.injEq, Prod.mk.injEq] at hres
    obtain ⟨rfl, rfl, rfl⟩ := hres
    have main : ¬ (x'.box = true ∧ p = []) → k (.lst sz rows) = some res → ∃ a' S, k a' = some res ∧ TR w false Any S v a' ∧ Oth hp g r S := fun hn h => by
      obtain ⟨S, e1, e2⟩ := lst r' p x' v _ _ hne h1 hx' hn
      exact ⟨_, S, h, e1, e2⟩
    split at h
    · cases h
    · rename_i hn _ _
      exact main (fun e => hn e.1 e.2) h
  · rename_i r' p off len sz rows v0 h1 hl h2
    split at h
    · cases h
    rename_i hne
    obtain ⟨x, sz', rows', hres, h⟩ := nav_inv h
    obtain ⟨x', hx', hr', _⟩ := hwalk_res h1
    simp only [Abs.res, hx', hr', Option.some.injEq, Prod.mk.injEq] at hres
    obtain ⟨rfl, rfl, rfl⟩ := hres
    have main : ¬ (x'.box = true ∧ p = []) → k (.lst sz ((rows.drop off).take len)) = some res → ∃ a' S, k a' = some res ∧ TR w false Any S v a' ∧ Oth hp g r S := fun hn h => by
      obtain ⟨S, e1, e2⟩ := lst r' p x' v0 _ _ hne h1 hx' hn
      exact ⟨_, S, h, TR.sub e1 hl h2, e2⟩
    split at h
    · cases h
    · rename_i hn _ _
      exact main (fun e => hn e.1 e.2) h
  · exact ⟨_, _, h, TR.nil, no⟩
theorem iocL0_sound (RL : Rel w wr hp g) {r : Nat} : ∀ {vs : List Value} {l : List AV} {k : List AV → R}, iocL0 hp r l k = some res → VRs w hp g vs l → ∃ l' Ss, k l' = some res ∧ T0s w false Any vs l' Ss ∧ ∀ S ∈ Ss, Oth hp g r S
  | _, _, k, h, .nil => ⟨[], [], h, .nil, fun _ h => by simp at h⟩
  | _, _, k, h, .cons h1 h2 => by
    simp only [iocL0] at h
    obtain ⟨a', S, h, e1, e2⟩ := ioc0_sound RL h h1
    obtain ⟨l', Ss, h, e3, e4⟩ := iocL0_sound RL h h2
    exact ⟨_, _, h, .cons e1 (fun h => by cases h) e3, fun S' hS => (List.mem_cons.1 hS).elim (fun e => e ▸ e2) (fun hS => e4 S' hS)⟩
theorem ioc1_sound (RL : Rel w wr hp g) {r : Nat} {t : TypeId} {v : Value} {a : AV} {k : AV → R} (h : ioc1 cfg hp r t a k = some res) (H : VR w hp g v a) : ∃ a' Ss, k a' = some res ∧ T1 w false Any v a' Ss ∧ ∀ S ∈ Ss, Oth hp g r S := by
  by_cases hag : ∃ cs, a = .agg cs
  · obtain ⟨cs, rfl⟩ := hag
    cases H with
    | agg H =>
      simp only [ioc1] at h
      obtain ⟨l', Ss, h, e1, e2⟩ := iocL0_sound RL h H
      exact ⟨_, _, h, .agg e1, e2⟩
  · have h : (elemSz cfg t fun esz => ioc0 hp r esz a k) = some res := by
      cases a <;> first | exact h | exact absurd ⟨_, rfl⟩ hag
    obtain ⟨esz, h⟩ := elemSz_inv h
    obtain ⟨a', S, h, e1, e2⟩ := ioc0_sound RL h H
    exact ⟨_, _, h, .one e1, fun S' hS => by simp at hS; subst hS; exact e2⟩
theorem iocL1_sound (RL : Rel w wr hp g) {r : Nat} : ∀ {ts : List TypeId} {vs : List Value} {l : List AV} {k : List AV → R}, iocL1 cfg hp r ts l k = some res → VRs w hp g vs l → ∃ l' Ss, k l' = some res ∧ l'.length = l.length ∧ T1s w false Any vs l' Ss ∧ ∀ S ∈ Ss, Oth hp g r S
  | [], _, _, k, h, .nil => ⟨[], [], h, rfl, .nil, fun _ h => by simp at h⟩
  | t :: ts, _, _, k, h, .cons h1 h2 => by
    simp only [iocL1] at h
    obtain ⟨a', S1, h, e1, e2⟩ := ioc1_sound RL h h1
    obtain ⟨l', Ss, h, e0, e3, e4⟩ := iocL1_sound RL h h2
    exact ⟨_, _, h, by simp [e0], .cons e1 (fun h => by cases h) e3, fun S' hS => (List.mem_append.1 hS).elim (fun hS => e2 S' hS) (fun hS => e4 S' hS)⟩
  | [], _, _, k, h, .cons _ _ => by simp [iocL1] at h
  | _ :: _, _, _, k, h, .nil => by simp [iocL1] at h
end
section
variable {w : World} {wr : Wrs} {ts : List (List Value)} {tm : List Value} {st : St} {g : Gh} {res : Res}
theorem isScal_any {w' : World} {h h' : Heap} {g' : Gh} {v : Value} {a : AV} (hs : isScal a = true) (H : VR w h g v a) : VR w' h' g' v a := by
  cases H <;> simp only [isScal] at hs <;> first | (cases hs; done) | constructor
theorem allScal_any {w' : World} {h h' : Heap} {g' : Gh} : ∀ {vs : List Value} {l : List AV}, allScal l = true → VRs w h g vs l → VRs w' h' g' vs l
  | _, _, _, .nil => .nil
  | _, a :: l, hs, .cons h1 h2 => by
    simp only [allScal] at hs
    split at hs
    · rename_i e
      exact .cons (isScal_any e h1) (allScal_any hs h2)
    · cases hs
theorem scalV_any {h : Heap} {v : Value} {a : AV} (hs : scalV a = true) (H : VR w h g v a) : ScalR v a := by
  intro w' h' g'
  cases H with
  | tup H => exact .tup (allScal_any hs H)
  | bool b => exact .bool b
  | int k n => exact .int k n
  | str s => exact .str s
  | nilp => exact .nilp
  | nilf => exact .nilf
  | _ => simp [scalV, isScal] at hs
theorem taR1_sound {h0 : Heap} {g0 : Gh} {r : Nat} {u : Value} {a : AV} {k : AV → St → R} (hin : inR r a = true) (h : ta0 a st k = some res) (G : Good w wr ts tm st g) (L : Less w h0 g0 st.heap g) (H : VR w h0 g0 u a) :
    ∃ a' S st1 g1, k a' st1 = some res ∧ TR w true (Kr w wr false) S u a' ∧ Tk w wr ts tm st g [S] st1 g1 ∧ ∀ k, S k → ∃ x, st.heap[r]?.join = some x ∧ g.F r k := by
  cases H <;> simp only [inR, isScal] at hin <;> try (cases hin; done)
  · exact ⟨_, _, st, g, h, .bool _, .leaf G, fun _ h => h.elim⟩
  · exact ⟨_, _, st, g, h, .int _ _, .leaf G, fun _ h => h.elim⟩
  · exact ⟨_, _, st, g, h, .str _, .leaf G, fun _ h => h.elim⟩
  · exact ⟨_, _, st, g, h, .nilp, .leaf G, fun _ h => h.elim⟩
  · simp only [ta0] at h; cases h
  · rename_i r' p sz rows h1
    split at hin
    · rename_i hr
      have hr := of_decide_eq_true hr
      subst hr
      simp only [ta0] at h
      obtain ⟨v, sz', rows', S, st', g', h, T⟩ := takeL_sound h G
      obtain ⟨rows0, hb0, hlen0⟩ := L.back _ _ _ _ _ T.at_
      rw [h1] at hb0
      cases hb0
      obtain ⟨x, hx, hro, hf⟩ := T.was
      exact ⟨_, S, st', g', h, T.tree, ⟨T.good, T.less, fun S' h k hk => by simp at h; subst h; exact T.apart k hk, fun S' h k hk => by simp at h; subst h; exact ⟨_, x, hx, hf k hk⟩⟩, fun k hk => ⟨x, hx, hf k hk⟩⟩
    · cases hin
/-- cells taken out of one root -/
theorem taR_sound {h0 : Heap} {g0 : Gh} {r : Nat} : ∀ {us : List Value} {l : List AV} {st : St} {g : Gh} {k : List AV → St → R}, taR r l st k = some res → Good w wr ts tm st g → Less w h0 g0 st.heap g → VRs w h0 g0 us l →
    ∃ l' Ss st' g', k l' st' = some res ∧ l'.length = l.length ∧ T0s w true (Kr w wr false) us l' Ss ∧ Tk w wr ts tm st g Ss st' g' ∧ ∀ S ∈ Ss, ∀ k, S k → ∃ x, st.heap[r]?.join = some x ∧ g.F r k
  | _, _, st, g, k, h, G, _, .nil => ⟨[], [], st, g, h, rfl, .nil, .none G, fun _ h => by simp at h⟩
  | _, _, st, g, k, h, G, L, .cons h1 h2 => by
    simp only [taR] at h
    split at h
    · rename_i hin
      obtain ⟨a', S, st1, g1, h, e1, T1, hS⟩ := taR1_sound hin h G L h1
      obtain ⟨l', Ss, st2, g2, h, e0, e2, T2, hSs⟩ := taR_sound h T1.good (L.trans T1.less) h2
      obtain ⟨T3, hd⟩ := T1.trans T2
      refine ⟨_, _, st2, g2, h, by simp [e0], .cons e1 (fun _ => hd S (by simp)) e2, T3, fun S' hS' k hk => ?_⟩
      rcases List.mem_cons.1 hS' with rfl | hS'
      · exact hS k hk
      · obtain ⟨x, hx, hF⟩ := hSs S' hS' k hk
        obtain ⟨x1, hx1, _, _, _, hf⟩ := T1.less.flags r x hx
        exact ⟨x1, hx1, hf k hF⟩
    · cases h
end
end Go.Abs

/- Soundness 63: the cells behind a pointer. -/
namespace Go.Abs
theorem loadP {P : Program} {cfg : Cfg} (hT : TysOK P cfg.ty) {w : World} {wr : Wrs} {h : Heap} {g : Gh} (HR : Rel w wr h g) {t : TypeId} {va : Value} {r i j sz : Nat} {rows : Rows} {k : AV → R} {res : Res}
    (hh : loadT cfg t h (.ptr r [] i j) k = some res) (hv : VR w h g va (.ptr r [] i j)) (hx : h[r]?.join = some ⟨false, false, true, sz, rows⟩) (hag : ∀ v, k v = some res → ∃ cs, v = .agg cs) :
    ∃ b o us cs arr e fz, va = .pointer (some ⟨b, o, none⟩) ∧ k (.agg cs) = some res ∧ us.length = cs.length ∧ VRs w h g us cs ∧ w.heap[b]? = some (.cells arr e fz) ∧ o + cs.length ≤ arr.size ∧
      (∀ q u, us[q]? = some u → arr[o + q]? = some u) ∧ (∀ q, o ≤ q → q < o + cs.length → Kr w wr false b q) ∧ g.F r b ∧
      ∃ o0 n c, hwalk w h g r [] = some (.slice (some ⟨b, o0, none⟩) n c, sz, rows) ∧ o = o0 + i * sz + j := by
  cases hv
  rename_i sz1 rows1 b o n c hw
  simp only [loadT] at hh
  obtain ⟨x, sz', rows', hres, hh⟩ := nav_inv hh
  obtain ⟨row, h1, hh⟩ := getRow_inv hh
  obtain ⟨hjl, hh⟩ := dropK_inv hh
  obtain ⟨ti, hti, hh⟩ := tyK_inv hh
  have hrr : x = ⟨false, false, true, sz, rows⟩ ∧ sz' = sz1 ∧ rows' = rows1 ∧ sz1 = sz ∧ rows1 = rows := by
    obtain ⟨x', hx', hr', _⟩ := hwalk_res hw
    rw [hx] at hx'
    cases hx'
    simp only [resR, Option.some.injEq, Prod.mk.injEq] at hr'
    simp only [Abs.res, hx, resR, Option.some.injEq, Prod.mk.injEq] at hres
    obtain ⟨e1, e2⟩ := hr'
    obtain ⟨e3, e4, e5⟩ := hres
    subst e1 e2
    exact ⟨e3.symm, e4.symm, e5.symm, rfl, rfl⟩
  obtain ⟨rfl, rfl, rfl, rfl, rfl⟩ := hrr
  have hroot := HR.root r _ hx
  simp only [RootR] at hroot
  obtain ⟨b', o', arr, e, fz, f, k1, k2, k3, k4, k5, k6, _⟩ := hroot
  have hbo : b' = b ∧ o' = o := by
    rw [hwalk_eq hx] at hw
    simp only [walk, Option.some.injEq, Prod.mk.injEq] at hw
    rw [k1] at hw
    simp only [Value.slice.injEq, Option.some.injEq, Addr.mk.injEq] at hw
    exact ⟨hw.1.1.1, hw.1.1.2.1⟩
  obtain ⟨rfl, rfl⟩ := hbo
  obtain ⟨⟨d, hd, hsh⟩, ⟨ii, z, hi1, hi2, _, _, _⟩, _, hone⟩ := hT _ hti
  split at hh
  · rename_i fs hfs
    obtain ⟨vs, hlen, hvs, hk⟩ := loadN_inv hh
    have cells : ∀ q, q < ti.size → ∃ u a', vs[q]? = some a' ∧ w.cell? ⟨b', o' + i * sz' + j + q, none⟩ = some u ∧ VR w h g u a' := by
      intro q hq
      obtain ⟨a0, a', k1, k2, k3⟩ := hvs q hq
      rw [List.getElem?_drop] at k1
      obtain ⟨u, k4, k5⟩ := HR.loadC hw h1 k1 k3
      exact ⟨u, a', k2, by rwa [Nat.add_assoc], k5⟩
    have mk : ∀ m, m ≤ ti.size → ∃ us : List Value, us.length = m ∧ (∀ q u, us[q]? = some u → w.cell? ⟨b', o' + i * sz' + j + q, none⟩ = some u) ∧ VRs w h g us (vs.take m) := by
      intro m
      induction m with
      | zero => exact fun _ => ⟨[], rfl, fun q u hu => by simp at hu, by simpa using VRs.nil⟩
      | succ m ih =>
        intro hm
        obtain ⟨us, e1, e2, e3⟩ := ih (by omega)
        obtain ⟨u, a', k2, k4, k5⟩ := cells m (by omega)
        refine ⟨us ++ [u], by simp [e1], fun q u' hu' => ?_, ?_⟩
        · rw [List.getElem?_append] at hu'
          split at hu'
          · exact e2 q u' hu'
          · rename_i hq
            have : q = m := by
              have := (List.getElem?_eq_some_iff.1 hu').1
              simp at this
              omega
            subst this
            simp [e1] at hu'
            subst hu'
            exact k4
        · have : vs.take (m + 1) = vs.take m ++ [a'] := by
            rw [List.take_succ_eq_append_getElem (by omega)]
            congr 1
            have := (List.getElem?_eq_some_iff.1 k2)
            obtain ⟨hm', e⟩ := this
            rw [e]
          rw [this]
          exact e3.append (.cons k5 .nil)
    obtain ⟨us, e1, e2, e3⟩ := mk ti.size (Nat.le_refl _)
    rw [← hlen, List.take_length] at e3
    have hrow : row.length = sz' := k4 row (List.mem_of_getElem? h1)
    have k3 : o' + rows'.length * sz' ≤ arr.size := k3
    have k5 : ∀ q, o' ≤ q → q < o' + rows'.length * sz' → Kr w wr false b' q := k5
    have hilt : i < rows'.length := (List.getElem?_eq_some_iff.1 h1).1
    have hjn : 0 < ti.size → j + ti.size ≤ sz' := by
      intro hpos
      obtain ⟨a0, _, k1, _, _⟩ := hvs (ti.size - 1) (by omega)
      rw [List.getElem?_drop] at k1
      have := (List.getElem?_eq_some_iff.1 k1).1
      omega
    have hmul : i * sz' + sz' ≤ rows'.length * sz' := by
      have := Nat.mul_le_mul_right sz' (show i + 1 ≤ rows'.length from hilt)
      rwa [Nat.add_mul, Nat.one_mul] at this
    refine ⟨b', o' + i * sz' + j, us, vs, arr, e, fz, rfl, hk, by rw [e1, hlen], e3, k2, ?_, fun q u hu => ?_, fun q hq1 hq2 => k5 q (by omega) ?_, k6, o', n, c, hw, rfl⟩
    · rcases Nat.eq_zero_or_pos ti.size with h0 | h0
      · have : j ≤ sz' := by rw [← hrow]; exact hjl
        omega
      · have := hjn h0; omega
    · have h1 := e2 q u hu
      simp only [World.cell?, k2] at h1
      exact h1
    · have h0 : 0 < ti.size := by omega
      have := hjn h0; omega
  · split at hh
    · obtain ⟨a', hc, hk⟩ := loadCell_inv hh
      obtain ⟨cs, rfl⟩ := hag _ hk
      rcases hc with ⟨_, _, _, hc⟩ | ⟨_, hc⟩
      · cases hc
      · subst hc
        rename_i row' v l hd0
        simp only [loadCell] at hh
        cases hh
    · simp at hh
end Go.Abs

/- Soundness 64: a call that writes behind a pointer. -/
namespace Go.Abs
theorem setCells_eta {b : Nat} : ∀ (us : List Value) (o : Nat) (w : World), w.setCells b o us = { w with heap := (w.setCells b o us).heap }
  | [], _, _ => rfl
  | u :: us, o, w => by
    rw [World.setCells]
    exact setCells_eta us (o + 1) (w.setCell ⟨b, o, none⟩ u)
theorem restore {w w' : World} {b o : Nat} {arr arr' : Array Value} {e : TypeId} {fz : Nat × Nat} {us : List Value} (hb : w.heap[b]? = some (.cells arr e fz)) (hb' : w'.heap[b]? = some (.cells arr' e fz)) (hsz : arr'.size = arr.size)
    (hout : ∀ q, q < o ∨ o + us.length ≤ q → arr'[q]? = arr[q]?) (hin : ∀ q u, us[q]? = some u → arr'[o + q]? = some u) (hlen : o + us.length ≤ arr.size) :
    ∃ w2 : World, w2.heap.size = w'.heap.size ∧ (∀ k, k ≠ b → w2.heap[k]? = w'.heap[k]?) ∧ w2.heap[b]? = w.heap[b]? ∧ w2.setCells b o us = w' := by
  have hlt := get_lt hb'
  have hget : ({ w' with heap := w'.heap.setIfInBounds b (.cells arr e fz) } : World).heap[b]? = some (.cells arr e fz) := by
    show (w'.heap.setIfInBounds b _)[b]? = _
    rw [Array.getElem?_setIfInBounds_self_of_lt hlt]
  have hoth : ∀ k, k ≠ b → ({ w' with heap := w'.heap.setIfInBounds b (.cells arr e fz) } : World).heap[k]? = w'.heap[k]? := fun k hk => by
    show (w'.heap.setIfInBounds b _)[k]? = _
    rw [Array.getElem?_setIfInBounds_ne (fun e => hk e.symm)]
  refine ⟨{ w' with heap := w'.heap.setIfInBounds b (.cells arr e fz) }, by simp, hoth, hget.trans hb.symm, ?_⟩
  rw [setCells_eta]
  obtain ⟨cs', h1, h2, h3, h4⟩ := setCells_heap us o _ arr e fz hget
  have hh : (({ w' with heap := w'.heap.setIfInBounds b (.cells arr e fz) } : World).setCells b o us).heap = w'.heap := by
    apply Array.ext_getElem?
    intro k
    by_cases hk : k = b
    · subst hk
      rw [h1, hb']
      have : cs' = arr' := by
        apply Array.ext_getElem?
        intro q
        have hq : cs'.getD q default = arr'.getD q default := by
          by_cases hq : q < o ∨ o + us.length ≤ q
          · rw [h3 q hq, Array.getD_eq_getD_getElem?, Array.getD_eq_getD_getElem?, hout q hq]
          · obtain ⟨j, rfl⟩ : ∃ j, q = o + j := ⟨q - o, by omega⟩
            have hj : j < us.length := by omega
            rw [h4 j hj (by omega), Array.getD_eq_getD_getElem?, hin j us[j] (by simp [hj]), List.getD_eq_getElem?_getD]
            simp [hj]
        by_cases hlt : q < arr.size
        · rw [Array.getElem?_eq_getElem (by omega), Array.getElem?_eq_getElem (by omega)]
          simpa [Array.getD, h2, hsz, hlt] using hq
        · rw [Array.getElem?_eq_none (by omega), Array.getElem?_eq_none (by omega)]
      rw [this]
    · rw [setCells_other hk, hoth k hk]
  rw [hh]
theorem Good.aside2 {w w' : World} {wr : Wrs} {ts : List (List Value)} {st : St} {g : Gh} {tm : List Value} (G : Good w wr ts tm st g) (hsz : w.heap.size ≤ w'.heap.size) (hw : ∀ k, (∃ r x, st.heap[r]?.join = some x ∧ g.F r k) → w'.heap[k]? = w.heap[k]?) : Good w' wr ts tm st g := by
  have keeps : Keeps (fun _ _ => True) w st.heap g w' st.heap g := fun r p v sz rows _ hq => ⟨rows, by
    rw [hwalk_same (wr := wr) (fun x hx => G.rel.root r x hx) rfl ⟨rfl, rfl⟩ (fun x k hx hF => hw k ⟨r, x, hx, hF⟩)]; exact hq, rfl⟩
  refine G.keep (SRefs.all (fun _ _ => trivial) st) keeps (G.rel.change (r := st.heap.length) (X := none) (HRefs.all (fun _ _ => trivial) _) keeps (fun r' => ?_) hsz (fun r' x' k _ hx hF => hw k ⟨r', x', hx, hF⟩) (fun _ _ => ⟨rfl, rfl, rfl⟩)
    (fun x hx => by cases hx) (fun x hx => by cases hx) (fun x hx => by cases hx))
  by_cases e : r' = st.heap.length
  · subst e; rw [if_pos rfl]; simp
  · rw [if_neg e]
theorem Fr.trans2 {w0 w1 w2 : World} {wr0 W1 : CS} (A : Fr w0 wr0 w1) (B : Fr w1 W1 w2) (hW : ∀ b q, W1 b q → b < w0.heap.size → wr0 b q) : Fr w0 wr0 w2 := by
  refine ⟨B.os.trans A.os, B.tape.trans A.tape, B.output.trans A.output, Nat.le_trans A.size B.size, fun b hb hn => ?_, fun b cs e fz hb => ?_⟩
  · rw [B.block b (Nat.lt_of_lt_of_le hb A.size) (fun q h => hn q (hW b q h hb))]
    exact A.block b hb hn
  · obtain ⟨cs1, h1, h2, h3⟩ := A.cells b cs e fz hb
    obtain ⟨cs2, k1, k2, k3⟩ := B.cells b cs1 e fz h1
    exact ⟨cs2, k1, k2.trans h2, fun q hq => (k3 q (fun h => hq (hW b q h (get_lt hb)))).trans (h3 q hq)⟩
theorem T0s.noX {w : World} {own : Bool} {K : CS} : ∀ {vs : List Value} {l : List AV} {Ss : List BS}, T0s w own K vs l Ss → ∀ a ∈ l, isX a = false
  | _, _, _, .nil, a, h => by cases h
  | _, _, _, .cons h1 _ h3, a, h => by
    rcases List.mem_cons.1 h with rfl | h
    · cases h1 <;> rfl
    · exact T0s.noX h3 a h
section
variable {P : Program} {E : Env} {cfg : Cfg} {lv : Lev} {C : Ctx} {ts : List (List Value)} {w w' : World} {a : Act} {st : St} {wr : Wrs} {g : Gh} {c : St → R} {res : Res} {o : Oper} {slot : Nat}
theorem bnd_inv {x : R} {k : Res → R} (h : bnd x k = some res) : ∃ v, x = some v ∧ k v = some res := by
  cases x with
  | none => rw [bnd_none] at h; cases h
  | some v => rw [bnd_some] at h; exact ⟨v, rfl, h⟩
theorem Inv.J (I : Inv C ts w a st wr g) : C.E.J w ∧ C.E.N ≤ w.heap.size := by
  refine ⟨C.E.stable C.w0 w C.hJ (fun b hb => I.fr.block b (Nat.lt_of_lt_of_le hb C.hN) (fun q hq => ?_)) I.fr.os I.fr.tape I.fr.output, Nat.le_trans C.hN I.fr.size⟩
  have := C.hwr b q hq
  omega
/-- what a call gives its caller -/
def COut (C : Ctx) (ts : List (List Value)) (a : Act) (k : AV → St → R) (res : Res) (e : Ending) (w' : World) : Prop :=
  ∃ v av st' wr' g', e = .returned v ∧ Inv C ts w' a st' wr' g' ∧ VR w' st'.heap g' v av ∧ k av st' = some res
theorem Hand.of {wr : Wrs} {w w2 : World} {W : CS} {h : Heap} {g : Gh} (hW : ∀ b q, W b q → wr.can b q) : ∀ {us : List Value} {l : List AV} {Ss : List BS}, T0s w true (fun b q => W b q ∧ w.frozen? ⟨b, q, none⟩ = false) us l Ss →
    (∀ S ∈ Ss, ∀ k, S k → w2.heap[k]? = w.heap[k]? ∧ k < w2.heap.size ∧ ∀ r x, h[r]?.join = some x → ¬ g.F r k) → Hand w2 wr h g false us l Ss
  | _, _, _, .nil, _ => .nil
  | _, _, _, .cons (S := S) h1 h2 h3, hS => by
    have hX : isX _ = false := T0s.noX (.cons h1 h2 h3) _ (List.mem_cons_self ..)
    have h1' : TR w true (Kr w wr false) S _ _ := h1.mono (fun _ h => h) (fun b q _ hk => ⟨hW b q hk.1, hk.2⟩)
    exact .cons (fun _ => h1'.same (fun b hb => (hS S (by simp) b hb).1)) (fun h => by rw [hX] at h; cases h) (fun k hk => ⟨(hS S (by simp) k hk).2.1, (hS S (by simp) k hk).2.2⟩) (h2 rfl) (Hand.of hW h3 (fun S' h' => hS S' (by simp [h'])))
theorem T0s.len {w : World} {own : Bool} {K : CS} : ∀ {vs : List Value} {l : List AV} {Ss : List BS}, T0s w own K vs l Ss → vs.length = l.length
  | _, _, _, .nil => rfl
  | _, _, _, .cons _ _ h3 => by simp [T0s.len h3]
theorem io_call (hT : TysOK P cfg.ty) (hL : IoOK P E cfg lv.pure) (hE : C.E = E) (I : Inv C ts w a st wr g) {f : FuncId} {m : Nat} {tys : List TypeId} {args : List AV} {vals : List Value} {k : AV → St → R} (hm : cfg.mode f = m + 2) (H : VRs w st.heap g vals args)
    (h0 : inout cfg lv f m tys args st k = some res) : FnOK P f ∧ Calls P f vals.toArray w (COut C ts a k res) := by
  unfold inout at h0
  obtain ⟨ta, _, tb, _, _, h1⟩ := splitA_inv h0
  obtain ⟨va, p, vb, e1, e2, h⟩ := splitA_inv h1
  clear h0 h1
  subst e1
  obtain ⟨vala, zs, ev, Ha, Hz⟩ := VRs.app_inv H
  obtain ⟨pv, valb, rfl, Hp, Hb⟩ : ∃ pv valb, zs = pv :: valb ∧ VR w st.heap g pv p ∧ VRs w st.heap g valb vb := by
    cases Hz with
    | cons h1 h2 => exact ⟨_, _, rfl, h1, h2⟩
  subst ev
  split at h
  case h_2 => cases h
  rename_i r q i j
  split at h
  case h_2 => cases h
  obtain ⟨x, hx, h⟩ := getH_inv h
  have hx : st.heap[r]?.join = some x := by rw [hx]; rfl
  obtain ⟨ro, virt, box, sz, rows⟩ := x
  simp only at h
  split at h
  case h_2 => cases h
  obtain ⟨va', Sa, h, la, Ta, Oa⟩ := iocL1_sound I.good.rel h Ha
  obtain ⟨vb', Sb, h, lb, Tb, Ob⟩ := iocL1_sound I.good.rel h Hb
  obtain ⟨b, o, us, cs0, arr, e, fz, rfl, h, hul, Hus, hb, hsz, hcell, hK, hF, o0, n0, c0', hw0, ho⟩ := loadP hT I.good.rel h Hp hx (fun v hv => by
    split at hv
    · exact ⟨_, rfl⟩
    · cases hv)
  simp only at h
  obtain ⟨cs, Ss, st1, g1, h, hl, T0, Tk1, hS⟩ := taR_sound h I.good .refl Hus
  have h := cat_inv h
  obtain ⟨r0, hr, h⟩ := bnd_inv h
  obtain ⟨hfn, hc⟩ := hL f m _ r0 hm hr
  obtain ⟨c0, cs1, rfl⟩ : ∃ c0 cs1, cs = c0 :: cs1 := by
    cases cs with
    | nil => split at h <;> first | contradiction | cases h
    | cons c0 cs1 => exact ⟨_, _, rfl⟩
  have hlen : isLen (c0 :: cs1).length r0.out = true := by
    split at h
    · assumption
    · cases h
  simp only [hlen] at h
  have hlen := isLen_inv hlen
  have hN := I.J.2
  have hbF : ∀ k, (∃ x, st.heap[r]?.join = some x ∧ g.F r k) → ∀ S, S ∈ Sa ∨ S ∈ Sb → ¬ S k := by
    intro k ⟨x, hx1, hFk⟩ S hSab hk
    rw [hx] at hx1
    cases hx1
    obtain ⟨r', x', hne, hx', hF'⟩ := (hSab.elim (fun h => Oa S h) (fun h => Ob S h)) k hk
    exact I.good.rel.sep r _ r' x' k hx hx' (fun e => hne e.symm) rfl hFk hF'
  have hwr : ∀ b q, wr.can b q → C.E.N ≤ b := fun b q h => by
    rcases Nat.lt_or_ge b C.w0.heap.size with hlt | hge
    · exact C.hwr b q (I.can b q h hlt)
    · have := C.hN; omega
  obtain ⟨d0, ds, hd⟩ : ∃ d0 ds, r0.out = d0 :: ds := by
    cases hq : r0.out with
    | nil => rw [hq] at hlen; cases hlen
    | cons d0 ds => exact ⟨_, _, rfl⟩
  have hvt : ∀ x, st1.heap[r]?.join = some x → x.ro = false ∧ x.virt = false ∧ x.box = true := fun x hx1 => by
    obtain ⟨x0, hx0, f1, f2, f3, _⟩ := Tk1.less.flags r x hx1
    rw [hx] at hx0
    cases hx0
    exact ⟨f1.symm, f2.symm, f3.symm⟩
  rw [hd] at h
  obtain ⟨⟨v1, s1, q1⟩, hw1⟩ := putCells_walks h Tk1.good (fun x hx1 hv => by rw [(hvt x hx1).2.1] at hv; cases hv)
  obtain ⟨rowsb, hback, _⟩ := Tk1.less.back _ _ _ _ _ hw1
  rw [hw0] at hback
  cases hback
  obtain ⟨x1, hx1, _⟩ := hwalk_res hw1
  obtain ⟨g1ro, g1v, g1b⟩ := hvt x1 hx1
  have hFb : g1.F r b := by
    have hroot := Tk1.good.rel.root r x1 hx1
    simp only [RootR, g1v, g1b] at hroot
    obtain ⟨b1, o1, _, _, _, _, k1, _, _, _, _, k6, _⟩ := hroot
    rw [hwalk_eq hx1] at hw1
    simp only [g1v, walk, Option.some.injEq, Prod.mk.injEq] at hw1
    rw [k1] at hw1
    simp only [Value.slice.injEq, Option.some.injEq, Addr.mk.injEq] at hw1
    rw [← hw1.1.1.1]
    exact k6
  have hwany : ∀ w2 : World, hwalk w2 st1.heap g1 r [] = some (.slice (some ⟨b, o0, none⟩) n0 c0', sz, q1) := fun w2 => by
    rw [hwalk_eq hx1] at hw1 ⊢
    simp only [g1v, walk] at hw1 ⊢
    exact hw1
  have hSb : ∀ S ∈ Ss, ∀ k, S k → k ≠ b := fun S hSS k hk e => (Tk1.apart S hSS k hk).2 r x1 hx1 (e ▸ hFb)
  have hlow : ∀ r x k, st.heap[r]?.join = some x → g.F r k → k < w.heap.size := I.good.rel.low
  have hc := hc va' (c0 :: cs1) vb' rfl (by rw [la, e2]) w b o wr.can arr e fz us vala valb Ss Sa Sb (hE ▸ I.J.1) (hE ▸ hN) (hE ▸ hwr) hb (by rw [hl]; exact hsz) hcell (fun q h1 h2 => hK q h1 (by rw [hl] at h2; exact h2)) T0
    (fun S h k hk => ⟨(Tk1.apart S h k hk).1, hSb S h k hk⟩) Ta Tb (fun S hSab k hk => ⟨by
      obtain ⟨r', x', _, hx', hF'⟩ := (hSab.elim (fun h => Oa S h) (fun h => Ob S h)) k hk
      exact hlow r' x' k hx' hF', fun e => hbF b ⟨_, hx, hF⟩ S hSab (e ▸ hk), fun S' hS' hk' => hbF k (hS S' hS' k hk') S hSab hk⟩)
  refine ⟨hfn, hc.mono fun en w' ⟨v, us', Ss', arr', he, hv, F, hb', hc', T', hS'⟩ => ?_⟩
  have hul' : us'.length = (c0 :: cs1).length := T'.len.trans hlen
  have hnW : ∀ q, ¬ (o ≤ q ∧ q < o + (c0 :: cs1).length) → ¬ IoW b o (c0 :: cs1).length Ss wr.can b q := by
    rintro q hq (⟨_, h1, h2⟩ | ⟨_, S, h1, h2⟩)
    · exact hq ⟨h1, h2⟩
    · exact hSb S h1 b h2 rfl
  obtain ⟨arr2, hb2, hs2, ho2⟩ := F.cells b arr e fz hb
  rw [hb'] at hb2
  cases hb2
  obtain ⟨w2, z1, z2, z3, z4⟩ := restore hb hb' hs2 (fun q hq => ho2 q (hnW q (by omega))) hc' (by rw [hul', hl]; exact hsz)
  have G2 : Good w2 (wrUp wr w.heap.size) ts a.tmps.toList st1 g1 := by
    refine (Tk1.good.wr (wrUp_agree wr _)).aside2 (by rw [z1]; exact F.size) fun k ⟨r', x', hx', hF'⟩ => ?_
    by_cases hkb : k = b
    · rw [hkb]; exact z3
    · rw [z2 k hkb]
      refine F.block k (Tk1.good.rel.low r' x' k hx' hF') ?_
      rintro q (⟨h1, _⟩ | ⟨_, S, h1, h2⟩)
      · exact hkb h1
      · exact (Tk1.apart S h1 k h2).2 r' x' hx' hF'
  have hand : Hand w2 (wrUp wr w.heap.size) st1.heap g1 false us' r0.out Ss' := by
    refine Hand.of (wr := wrUp wr w.heap.size) (fun b q h => h.elim .inr .inl) T' fun S hSS k hk => ?_
    obtain ⟨k1, k2, k3⟩ := hS' S hSS k hk
    refine ⟨z2 k k1, by rw [z1]; exact k2, fun r' x' hx' hF' => ?_⟩
    obtain ⟨S0, hS0, hk0⟩ := k3 (Tk1.good.rel.low r' x' k hx' hF')
    exact (Tk1.apart S0 hS0 k hk0).2 r' x' hx' hF'
  rw [← hd] at h
  obtain ⟨st', g', h, G3, _⟩ := putCells_sound (ex := false) r0.out j us' Ss' st1 g1 w2 h G2 ⟨x1, hx1, g1ro, fun h => by cases h⟩ ⟨q1, hwany w2⟩ hand
  rw [← ho, z4] at G3
  split at h
  case h_2 => cases h
  refine ⟨v, r0.val, st', _, g', he, ⟨G3, I.fr.trans2 F ?_, fun b' q hw hb0 => ?_, I.dom, I.nodef⟩, hv w' st'.heap g', h⟩
  · rintro b' q (⟨h1, h2, h3⟩ | ⟨h1, _⟩) hlt
    · subst h1
      exact I.can _ _ (hK q h2 (by rw [← hl]; exact h3)).1 hlt
    · exact I.can _ _ h1 hlt
  · rcases hw with hw | hw
    · exact I.can b' q hw hb0
    · have := I.fr.size; omega
end
end Go.Abs

/- Soundness 46: calls; bodies; one level more. -/
namespace Go.Abs
section
variable {P : Program} {E : Env} {cfg : Cfg} {lv : Lev} {C : Ctx} {ts : List (List Value)} {w w' : World} {a : Act} {st : St} {wr : Wrs} {g : Gh} {c : St → R} {res : Res} {o : Oper} {slot : Nat}

theorem pure_call (hL : PureOK P E cfg lv.pure) (hE : C.E = E) (I : Inv C ts w a st wr g) {f : FuncId} {args : List AV} {vals : List Value} {own : Bool} {lent : List AV} {k : AV → St → R} (hm : cfg.mode f = 0) (H : ARs w Any vals args)
    (h : (bnd (lv.pure f args) fun res => opened slot own lent res.val st k) = some res) : FnOK P f ∧ Calls P f vals.toArray w (COut C ts a k res) := by
  obtain ⟨r, hr, h⟩ := bnd_inv h
  obtain ⟨hf, hc⟩ := hL f args r hm hr
  refine ⟨hf, (hc w vals (hE ▸ I.J.1) (hE ▸ I.J.2) H).mono fun e w' ⟨v, he, F, T⟩ => ?_⟩
  obtain ⟨av, st', wr', g', h1, h2, h3⟩ := opened_sound h I F T
  exact ⟨v, av, st', wr', g', he, h2, h3, h1⟩
theorem callF_sound (hT : TysOK P cfg.ty) (hL : LevOK P E cfg lv) (hE : C.E = E) (I : Inv C ts w a st wr g) {f : FuncId} {tys : List TypeId} {args : List AV} {vals : List Value} {k : AV → St → R} (H : VRs w st.heap g vals args)
    (h : callF cfg lv slot f tys args st k = some res) : FnOK P f ∧ Calls P f vals.toArray w (COut C ts a k res) := by
  unfold callF at h
  split at h
  · rename_i hm
    obtain ⟨l', h, H'⟩ := clArgs_sound I.good.rel h H
    exact pure_call hL.pure hE I hm H' h
  · obtain ⟨hf, hc⟩ := hL.inl f args st k res h
    exact ⟨hf, hc C ts w a wr g vals hE I H⟩
  · rename_i hm
    exact io_call hT hL.io hE I hm H h
theorem callC_sound (hT : TysOK P cfg.ty) (hL : LevOK P E cfg lv) (hE : C.E = E) (I : Inv C ts w a st wr g) {f : FuncId} {tys : List TypeId} {args cap : List AV} {vals caps : List Value} {k : AV → St → R} (H : VRs w st.heap g vals args) (Hc : VRs w st.heap g caps cap)
    (h : callC cfg lv slot f tys args cap st k = some res) : FnOK P f ∧ Calls P f (vals ++ caps).toArray w (COut C ts a k res) := by
  unfold callC at h
  split at h
  · cases Hc
    rw [List.append_nil]
    exact callF_sound hT hL hE I H h
  · split at h
    · rename_i hm
      obtain ⟨l1, h, H1⟩ := clArgs_sound I.good.rel h H
      obtain ⟨l2, h, H2⟩ := clC_sound I.good.rel h Hc
      have h := cat_inv h
      obtain ⟨r, hr, h⟩ := bnd_inv h
      have h := cat_inv h
      have hx : (bnd (lv.pure f (l1 ++ l2)) fun res => opened slot (cfg.own f) (args ++ cap) res.val st k) = some res := by rw [hr, bnd_some]; exact h
      exact pure_call hL.pure hE I hm (H1.append H2.args) hx
    · have h := cat_inv h
      obtain ⟨hf, hc⟩ := hL.inl f _ st k res h
      exact ⟨hf, hc C ts w a wr g _ hE I (H.append Hc)⟩
theorem ev_callv (hT : TysOK P cfg.ty) (hL : LevOK P E cfg lv) (hE : C.E = E) {cl : Call} {fo : Operand} {Q : Exit → Act → World → Prop} (ho : o.op = .call cl) (hb : cl.callee = .value fo) (h : evOp cfg lv slot o st c = some res) (I : Inv C ts w a st wr g) :
    o.wp P a w (Post C ts c res) Q := by
  simp only [evOp, ho, hb] at h
  obtain ⟨vs, h, H⟩ := opnds_sound I.good.env h
  obtain ⟨fv, h, Hf⟩ := opnd_sound h I.good.env
  split at h
  · rename_i f cap
    generalize hx : a.eval fo = vx at Hf
    cases Hf with
    | @fn _ caps _ Hc =>
    obtain ⟨hf, hc⟩ := callC_sound hT hL hE I H Hc h
    have e1 : (cl.args.toList.map a.eval ++ caps).toArray = cl.args.map a.eval ++ caps.toArray := by
      rw [← Array.toList_map]; simp
    rw [e1] at hc
    have hrun : (execOp a.eval o).run P w = .ok (.enter f (cl.args.map a.eval ++ caps.toArray)) w := by
      have e2 : execOp a.eval o = (do let d ← resolve a.eval cl o.type; invoke d.target d.args) := by simp only [execOp, ho]
      rw [e2]
      simp only [resolve, hb, hx, Deferred.ofValue, Sem.run_bind, Sem.run_pure, Result.andThen_ok, invoke]
      have e3 : (#[] : Array Value) ++ cl.args.map a.eval = cl.args.map a.eval := by simp
      rw [e3]
      exact run_callFunc hf _ w
    unfold Oper.wp
    rw [hrun, Oper.upon_enter]
    refine hc.mono fun e w'' ⟨v, av, st', wr', g', he, I', H', hk⟩ => ?_
    subst he
    exact I'.put hk H'
  · cases h

/-! ### what a function hands back -/
def resOne (a : Array Value) (x : ResultVar) : Sem Value := match x with
  | .tmp t => pure (a.getD t undef)
  | .cell b t => do loadVar t (← asAddr (a.getD b undef))
theorem results_eq (fn : Func) (tmps : Array Value) : results fn tmps = (do
    let vs ← List.toArray <$> fn.results.toList.mapM (resOne tmps)
    pure (if h : vs.size = 1 then vs[0] else .tuple vs)) := by
  unfold results
  rw [Array.mapM_eq_mapM_toList]
  rfl
theorem gather_sound (hT : TysOK P cfg.ty) (I : Inv C ts w a st wr g) : ∀ {l : List ResultVar} {k : List AV → R}, gather cfg st l k = some res →
    ∃ us avs, k avs = some res ∧ (l.mapM (resOne a.tmps)).run P w = .ok us w ∧ VRs w st.heap g us avs
  | [], k, h => ⟨[], [], h, rfl, .nil⟩
  | x :: l, k, h => by
    have one : ∃ u av, (gather cfg st l fun vs => k (av :: vs)) = some res ∧ (resOne a.tmps x).run P w = .ok u w ∧ VR w st.heap g u av := by
      simp only [gather] at h
      split at h
      · rename_i t
        obtain ⟨av, h1, h⟩ := getE_inv h
        obtain ⟨v, h2, h3⟩ := I.good.env.get h1
        rw [Array.getElem?_toList] at h2
        exact ⟨v, av, h, by simp [resOne, h2], h3⟩
      · rename_i b t
        obtain ⟨av, h1, h⟩ := getE_inv h
        obtain ⟨v, h2, h3⟩ := I.good.env.get h1
        rw [Array.getElem?_toList] at h2
        have hp : ∃ ad, v = .pointer (some ad) := by
          cases h3 <;> simp only [loadT] at h <;> first | (cases h; done) | exact ⟨_, rfl⟩
        obtain ⟨ad, rfl⟩ := hp
        obtain ⟨u, av', h4, h5, h⟩ := loadT_sound (P := P) hT I.good.rel h h3
        refine ⟨u, av', h, ?_, h5⟩
        simpa [resOne, h2, Instr.loadAt, Instr.sureAddr, asAddr] using h4
    obtain ⟨u, av, h, h1, h2⟩ := one
    obtain ⟨us, avs, h, h3, h4⟩ := gather_sound hT I h
    exact ⟨u :: us, av :: avs, h, by simp [List.mapM_cons, h1, h3], .cons h2 h4⟩
theorem one_sound {us : List Value} {avs : List AV} {h : Heap} {k : AV → R} (hh : one avs k = some res) (H : VRs w h g us avs) : ∃ av, k av = some res ∧ VR w h g (if h : us.toArray.size = 1 then us.toArray[0] else .tuple us.toArray) av := by
  unfold one at hh
  split at hh
  · cases H with
    | cons h1 h2 =>
      cases h2
      exact ⟨_, hh, by simpa using h1⟩
  · rename_i hn
    refine ⟨_, hh, ?_⟩
    rw [dif_neg]
    · exact .tup H
    · intro hs
      have hl := H.length
      cases avs with
      | nil => simp at hl; subst hl; simp at hs
      | cons a0 avs =>
        cases avs with
        | nil => exact hn a0 rfl
        | cons => simp at hl hs; omega

theorem body_sound (hT : TysOK P cfg.ty) (hE : C.E = E) (hO : OpsOK P E cfg lv) {f : FuncId} {fn : Func} (hf : P.funcs[f]? = some fn) (hD : ∀ b, fn.body = some b → DrawsOK P E (evDraw cfg lv f) b) {args : List AV} {vals : List Value} {stk : List (List AV)} {h : Heap} {k : AV → St → R}
    (hh : body cfg lv f fn args stk h k = some res) (hlen : vals.length = args.length)
    (I : ∀ n, Inv C ts w { tmps := vals.toArray ++ Array.replicate n Go.undef, defers := [] } ⟨args ++ List.replicate n .undef, stk, h⟩ wr g) :
    Calls P f vals.toArray w fun e w' => ∃ v av a' st' wr' g', e = .returned v ∧ Inv C ts w' a' st' wr' g' ∧ VR w' st'.heap g' v av ∧ k av st' = some res := by
  unfold body at hh
  split at hh
  · cases hh
  · rename_i b hb
    have hh := undefs_inv hh
    have hh := cat_inv hh
    have hev := ev_sound (f := f) hE hO clean_ok b (hD b hb) _ _ res { tmps := vals.toArray ++ Array.replicate (fn.ntmps - args.length) Go.undef, defers := [] } w hh ⟨wr, g, I _⟩
    refine calls_of_wp hf hb ?_
    have e1 : vals.toArray.size = args.length := by simpa using hlen
    rw [e1]
    refine wp_mono hev fun e a' w' hp => ?_
    obtain ⟨st', h1, wr', g', I'⟩ := hp
    have fin : (gather cfg st' fn.results.toList fun vs => one vs fun v => k v st') = some res → a'.defers = [] ∧ ∃ v, (results fn a'.tmps).run P w' = .ok v w' ∧ ∃ v' av a'' st' wr' g', Ending.returned v = .returned v' ∧ Inv C ts w' a'' st' wr' g' ∧ VR w' st'.heap g' v' av ∧ k av st' = some res := by
      intro h2
      obtain ⟨us, avs, h3, h4, h5⟩ := gather_sound hT I' h2
      obtain ⟨av, h6, h7⟩ := one_sound h3 h5
      refine ⟨I'.nodef, _, ?_, _, av, a', st', wr', g', rfl, I', h7, h6⟩
      rw [results_eq]
      simp [h4]
    cases e with
    | normal => exact fin h1
    | ret => exact fin h1
    | exit id => simp at h1
    | goto l => simp at h1
    | panic ch => simp at h1
    | outgrown => simp at h1
end
end Go.Abs

/- Soundness 47: slices built. -/
namespace Go.Abs
section
variable {P : Program} {cfg : Cfg} {lv : Lev} {C : Ctx} {ts : List (List Value)} {w w' : World} {a : Act} {st : St} {wr : Wrs} {g : Gh} {c : St → R} {res : Res} {o : Oper} {slot : Nat}

theorem part_in {ex : Bool} {tm : List Value} {h0 : Heap} {g0 : Gh} {l : List AV} {us : List Value} {k : List AV → St → R} (h : cellsIn0 ex ex 0 l st k = some res) (G : Good w wr ts tm st g) (L : Less w h0 g0 st.heap g) (hs : ex = true → st.heap = h0 ∧ g = g0) (H : VRs w h0 g0 us l) :
    ∃ cs Ss st' g', k cs st' = some res ∧ Ins w wr ts tm ex us st g cs Ss st' g' ∧ (ex = true → st' = st ∧ g' = g) := by
  cases ex with
  | true =>
    obtain ⟨e1, e2⟩ := hs rfl
    subst e1 e2
    obtain ⟨cs, Ss, h, I⟩ := cellsIn0_names G h H
    exact ⟨cs, Ss, st, g, h, I, fun _ => ⟨rfl, rfl⟩⟩
  | false =>
    obtain ⟨cs, Ss, st', g', h, I⟩ := cellsIn0_sound h G L H
    exact ⟨cs, Ss, st', g', h, I, fun h => nomatch h⟩
theorem Grid.move {ex : Bool} {sz : Nat} {rows : Rows} {cs : Array Value} {f : Nat → Nat → BS} {h h' : Heap} {g g' : Gh} (D : Grid w wr h g ex sz rows cs f) (L : Less w h g h' g') (hs : ex = true → h' = h ∧ g' = g) : Grid w wr h' g' ex sz rows cs f := by
  refine ⟨D.len, fun i j row a hr ha => ⟨(D.cell i j row a hr ha).1, fun hx => ?_⟩, fun i j k hk => ⟨(D.apart i j k hk).1, fun r x hx hF => ?_⟩, D.own⟩
  · obtain ⟨he, hv⟩ := (D.cell i j row a hr ha).2 hx
    obtain ⟨e1, e2⟩ := hs he
    subst e1 e2
    exact ⟨he, hv⟩
  · obtain ⟨x1, hx1, _, _, _, hf⟩ := L.flags r x hx
    exact (D.apart i j k hk).2 r x1 hx1 (hf k hF)
/-- one cell of a block to be -/
theorem Grid.set1 {ex : Bool} {sz : Nat} {rows : Rows} {cs : Array Value} {f : Nat → Nat → BS} {h : Heap} {g : Gh} (D : Grid w wr h g ex sz rows cs f) (hsz : rows.length * sz = cs.size) {i j : Nat} {row : List AV} {u : Value} {av : AV} {S : BS} (hi : rows[i]? = some row) (hj : j < row.length)
    (h1 : isX av = false → TR w true (Kr w wr false) S u av) (h2 : isX av = true → ex = true ∧ VR w h g u av) (h3 : ∀ k, S k → k < w.heap.size ∧ ∀ r x, h[r]?.join = some x → ¬ g.F r k) (h4 : ∀ i' j' k, f i' j' k → ¬ S k) :
    Grid w wr h g ex sz (rows.set i (row.set j av)) (cs.setIfInBounds (i * sz + j) u) (fun i' j' => if i' = i ∧ j' = j then S else f i' j') := by
  have hil : i < rows.length := (List.getElem?_eq_some_iff.1 hi).1
  have hjs : j < sz := by rw [← D.len row (mem_get hi)]; exact hj
  have hq : i * sz + j < cs.size := by
    rw [← hsz]
    have := idx_lt (o := 0) hil (Nat.le_refl _) hjs
    omega
  refine ⟨set_rowlen hi D.len, fun i' j' row' a' hr ha => ?_, fun i' j' k hk => ?_, fun i1 j1 i2 j2 k k1 k2 => ?_⟩
  · by_cases e : i' = i ∧ j' = j
    · obtain ⟨rfl, rfl⟩ := e
      rw [List.getElem?_set_self hil] at hr
      cases hr
      rw [List.getElem?_set_self hj] at ha
      cases ha
      simp only [and_self, if_true]
      rw [cellSet_self hq]
      exact ⟨h1, h2⟩
    · simp only [if_neg e]
      have hold : ∃ row0, rows[i']? = some row0 ∧ row0[j']? = some a' := by
        by_cases e3 : i = i'
        · subst e3
          rw [List.getElem?_set_self hil] at hr
          cases hr
          have e4 : j ≠ j' := fun e4 => e ⟨rfl, e4.symm⟩
          rw [List.getElem?_set_ne e4] at ha
          exact ⟨row, hi, ha⟩
        · rw [List.getElem?_set_ne e3] at hr
          exact ⟨row', hr, ha⟩
      obtain ⟨row0, h5, h6⟩ := hold
      have hj' : j' < sz := by rw [← D.len row0 (mem_get h5)]; exact (List.getElem?_eq_some_iff.1 h6).1
      rw [cellSet (fun e5 => e (idx_inj hj' hjs e5))]
      exact D.cell i' j' row0 a' h5 h6
  · split at hk
    · exact h3 k hk
    · exact D.apart _ _ k hk
  · split at k1 <;> split at k2
    · rename_i e1 e2; exact ⟨e1.1.trans e2.1.symm, e1.2.trans e2.2.symm⟩
    · exact absurd k1 (h4 _ _ k k2)
    · exact absurd k2 (h4 _ _ k k1)
    · exact D.own _ _ _ _ k k1 k2
theorem set_same_len {rows : Rows} {i j : Nat} {row : List AV} {av : AV} : (rows.set i (row.set j av)).length = rows.length := by simp
theorem Grid.sets {ex : Bool} {sz i : Nat} {h : Heap} {g : Gh} : ∀ {us : List Value} {l : List AV} {Ss : List BS} {rows : Rows} {cs : Array Value} {f : Nat → Nat → BS} {j : Nat} {k : Rows → R}, setCells rows i j l k = some res → Grid w wr h g ex sz rows cs f → rows.length * sz = cs.size → Hand w wr h g ex us l Ss →
    (∀ S ∈ Ss, ∀ i' j' k, f i' j' k → ¬ S k) → ∃ rows' cs' f', k rows' = some res ∧ Grid w wr h g ex sz rows' cs' f' ∧ rows'.length = rows.length ∧ cs'.toList = putAt cs.toList (i * sz + j) us ∧ (us ≠ [] → j + us.length ≤ sz ∧ i < rows.length) ∧ (∀ i' j' k, f' i' j' k → f i' j' k ∨ ∃ S ∈ Ss, S k)
  | _, _, _, rows, cs, f, j, k, hh, D, _, .nil, _ => ⟨rows, cs, f, hh, D, rfl, rfl, fun h => absurd rfl h, fun _ _ _ h => .inl h⟩
  | _, _, _, rows, cs, f, j, k, hh, D, hsz, .cons (Ss := Ss) h1 h2 h3 h4 h5, hS => by
    simp only [setCells] at hh
    obtain ⟨row, hi, hj, hh⟩ := setRC_inv hh
    have D' := D.set1 hsz hi hj h1 h2 h3 (fun i' j' k hk => hS _ (by simp) i' j' k hk)
    obtain ⟨rows', cs', f', e1, e2, e3, e4, e5, e6⟩ := Grid.sets hh D' (by rw [set_same_len, Array.size_setIfInBounds]; exact hsz) h5 (fun S' hS' i' j' k hk => by
      split at hk
      · exact h4 S' hS' k hk
      · exact hS S' (by simp [hS']) i' j' k hk)
    have hjs : j < sz := by rw [← D.len row (mem_get hi)]; exact hj
    refine ⟨rows', cs', f', e1, e2, by rw [e3, set_same_len], ?_, fun _ => ?_, fun i' j' k hk => ?_⟩
    · rw [e4]
      simp [putAt, Nat.add_assoc]
    · have hil := (List.getElem?_eq_some_iff.1 hi).1
      refine ⟨?_, hil⟩
      cases h5 with
      | nil => simp; omega
      | cons => have := (e5 (by simp)).1; simp at this ⊢; omega
    · rcases e6 i' j' k hk with h | ⟨S', hS', hk'⟩
      · split at h
        · exact .inr ⟨_, by simp, h⟩
        · exact .inl h
      · exact .inr ⟨S', by simp [hS'], hk'⟩
theorem buildRows_sound {ex : Bool} {tm : List Value} {sz : Nat} {h0 : Heap} {g0 : Gh} (hpos : 0 < sz) (R0 : Rel w wr h0 g0) : ∀ {l : List (Nat × Value)} {m : List (Nat × AV)} {rows : Rows} {cs : Array Value} {f : Nat → Nat → BS} {st : St} {g : Gh} {k : Rows → St → R},
    buildRows ex sz m rows st k = some res → PartsR w h0 g0 l m → Good w wr ts tm st g → Less w h0 g0 st.heap g → (ex = true → st.heap = h0 ∧ g = g0) → Grid w wr st.heap g ex sz rows cs f → rows.length * sz = cs.size →
    ∃ rows' cs' f' st' g', k rows' st' = some res ∧ Good w wr ts tm st' g' ∧ Grid w wr st'.heap g' ex sz rows' cs' f' ∧ rows'.length = rows.length ∧ rows'.length * sz = cs'.size ∧ Instr.fill (fun i => some (i * sz, sz)) cs l = some cs'
  | [], _, rows, cs, f, st, g, k, hh, .nil, G, _, _, D, hsz => ⟨rows, cs, f, st, g, hh, G, D, rfl, hsz, rfl⟩
  | (i, v) :: l, (_, av) :: m, rows, cs, f, st, g, k, hh, .cons h1 h2, G, L, hs, D, hsz => by
    simp only [buildRows] at hh
    obtain ⟨pl, hh, hv, hpl, hvn, _⟩ := partsN_sound R0 hh h1
    obtain ⟨cl, Ss, st1, g1, hh, Is, same⟩ := part_in hh G L hs hv
    have D1 := D.move Is.less (fun he => by obtain ⟨e1, e2⟩ := same he; subst e1 e2; exact ⟨rfl, rfl⟩)
    obtain ⟨rows1, cs1, f1, hh, D2, e3, e4, e5, e6⟩ := Grid.sets hh D1 hsz Is.hand (fun S hS i' j' k hk hk' => by
      obtain ⟨r, x, hx, _, hF⟩ := Is.was S hS k hk'
      exact (D.apart i' j' k hk).2 r x hx hF)
    have hsz1 : cs1.size = cs.size := by
      rw [← Array.length_toList, e4, putAt_length, Array.length_toList]
    obtain ⟨rows2, cs2, f2, st2, g2, k1, k2, k3, k4, k5, k6⟩ := buildRows_sound hpos R0 hh h2 Is.good (L.trans Is.less) (fun he => by
      obtain ⟨a1, a2⟩ := same he
      obtain ⟨a3, a4⟩ := hs he
      subst a1 a2
      exact ⟨a3, a4⟩) D2 (by rw [e3, hsz1]; exact hsz)
    refine ⟨rows2, cs2, f2, st2, g2, k1, k2, k3, by rw [k4, e3], k5, ?_⟩
    simp only [Instr.fill]
    have hne : v.cells.toList ≠ [] := fun e => by
      have : v.cells.size = 0 := by rw [← Array.length_toList, e]; rfl
      omega
    obtain ⟨hb1, hb2⟩ := e5 hne
    rw [Array.length_toList, hvn] at hb1
    have hbound : i * sz + v.cells.size ≤ cs.size := by
      rw [← hsz, hvn]
      have : (i + 1) * sz ≤ rows.length * sz := Nat.mul_le_mul_right _ (by omega)
      rw [Nat.succ_mul] at this
      exact this
    have hcs : (v.cells.zipIdx.foldl (fun cs (x : Value × Nat) => cs.setIfInBounds (i * sz + x.2) x.1) cs) = cs1 := by
      apply Array.toList_inj.1
      rw [e4, ← Array.foldl_toList, Array.toList_zipIdx]
      simpa using foldl_putAt (i * sz) v.cells.toList 0 cs
    rw [if_neg]
    · have := k6
      rw [← hcs] at this
      exact this
    · simp only [ne_eq, Bool.or_eq_true, decide_eq_true_eq, not_or, Decidable.not_not]
      exact ⟨hvn, by omega⟩
theorem copies_inv {n : Nat} {z : List AV} {k : Rows → R} (h : copies n z k = some res) : k (List.replicate n z) = some res := by
  induction n generalizing k with
  | zero => exact h
  | succ n ih => simpa [List.replicate_succ] using ih h
theorem ev_buildSlice (hT : TysOK P cfg.ty) {t : TypeId} {n : Nat} {ps : Array (Nat × Operand)} {Q : Exit → Act → World → Prop} (ho : o.op = .buildSlice t n ps) (h : evOp cfg lv slot o st c = some res) (I : Inv C ts w a st wr g) : o.wp P a w (Post C ts c res) Q := by
  simp only [evOp, ho] at h
  obtain ⟨ti, hti, h⟩ := tyK_inv h
  obtain ⟨d, hd, hsh⟩ := (hT _ hti).run (w := w)
  simp only at hd hsh
  split at h
  · rename_i e hs
    rw [hs] at hsh
    simp only [ShOK] at hsh
    subst hsh
    obtain ⟨tj, htj, h⟩ := tyK_inv h
    obtain ⟨m, h, hm⟩ := parts_sound I.good.env h
    split at h
    · cases h
    · rename_i hsmall
      simp only [decide_eq_true_eq] at hsmall
      have h := copies_inv h
      obtain ⟨ii, z, hi1, hi2, hi3, hi4, hzc, _, _⟩ := (hT _ htj).zeros
      have hpos := (hT _ htj).pos
      simp only at hi1 hi2 hi3 hzc hpos
      have e1 : (ps.map fun (i, x) => (i, a.eval x)).toList = ps.toList.map fun x => (x.1, a.eval x.2) := by simp
      have fin : ∀ ex : Bool, (buildRows ex tj.size m (List.replicate n tj.zero) st fun rows st => newRoot st slot ⟨false, false, ex, tj.size, rows⟩ fun st => putD st o.dst (.ref slot []) c) = some res → o.wp P a w (Post C ts c res) Q := by
        intro ex h
        have D := zero_grid (w := w) (wr := wr) (g := g) (hT _ htj) (h := st.heap) hi1 hi4 n n (Nat.le_refl _) ex
        obtain ⟨rows', cs', f', st', g', h, G', D', k4, k5, k6⟩ := buildRows_sound hpos I.good.rel h hm I.good .refl (fun _ => ⟨rfl, rfl⟩) D (by simp)
        obtain ⟨hsl, h⟩ := newRoot_inv h
        simp only [List.length_replicate] at k4
        obtain ⟨g2, k7, k8, _⟩ := G'.block (e := e) hsl n D' (by omega) (by rw [← k5, k4]; exact Nat.le_refl _) (fun _ => k4.symm) hpos
        rw [k4] at k8
        have I' : Inv C ts w a st' wr g' := ⟨G', I.fr, I.can, I.dom, I.nodef⟩
        refine wp_value (s := Instr.buildSlice t n (ps.map fun (i, x) => (i, a.eval x))) (v := .slice (some ⟨w.heap.size, 0, none⟩) n n) (by simp only [execOp, ho]) ?_ ((I'.alloc k7).put h (.ref k8))
        by_cases h0 : n * tj.size = 0
        · have e2 : cs' = #[] := by
            have : cs'.size = 0 := by rw [← k5, k4]; exact h0
            exact Array.eq_empty_of_size_eq_zero this
          subst e2
          have e3 : ((Array.range (n * tj.size)).map (z.cells[· % z.cells.size]!)) = #[] := by simp [h0]
          rw [e3] at k6
          have hn : n = 0 := by
            rcases Nat.mul_eq_zero.1 h0 with h | h
            · exact h
            · omega
          subst hn
          simp [Instr.buildSlice, hd, sizeOf, typeInfo, hi1, newRow, hi2]
          have e5 : (Array.map (fun (_ : Nat) => (default : Value)) (Array.range 0)) = #[] := by simp
          rw [e5, k6]
          simp
        · have hi2' : ii.size = tj.size := hi2
          have := run_buildSlice (P := P) w t e n (ps.map fun (i, x) => (i, a.eval x)) cs' ii z (by
            obtain ⟨d', hd', hs'⟩ := (hT _ hti).under
            simp only [hs, ShOK] at hd' hs'
            subst hs'
            exact hd') hi1 hi4 (by rw [hi2']; omega) (by rw [hi2']; exact h0) (by rw [hi2', e1]; exact k6)
          exact this
      split at h
      · exact fin true h
      · exact fin false h
  · cases h
end
end Go.Abs

/- Soundness 48: conversions between bytes and strings. -/
namespace Go.Abs
section
variable {P : Program} {cfg : Cfg} {lv : Lev} {C : Ctx} {ts : List (List Value)} {w w' : World} {a : Act} {st : St} {wr : Wrs} {g : Gh} {c : St → R} {res : Res} {o : Oper} {slot : Nat}

theorem isBytes_all {rows : Rows} (h : isBytes rows = true) : ∀ row ∈ rows, ∃ n, row = [.int .u8 n] := by
  intro row hr
  have := List.all_eq_true.1 h row hr
  split at this
  · exact ⟨_, rfl⟩
  · cases this
/-- a list of bytes, read as a string -/
theorem TR.bytes {own : Bool} {K : CS} {S : BS} {v : Value} {rows : Rows} (T : TR w own K S v (.lst 1 rows)) (hb : isBytes rows = true) {src dst e : TypeId} (hs : P.underlying src = some (.slice e)) (he : P.underlying e = some (.int .u8)) (hd : P.underlying dst = some .string) :
    (convert src dst v).run P w = .ok (.string (strNums (nums rows))) w := by
  rcases T.lst_inv with ⟨rfl, aa, rfl⟩ | ⟨b, o, c, cs, e', fz, f, rfl, hb', hs', hc, hl, hK, hS, hf, hd', hcell⟩
  · cases aa with
    | none => exact run_convert_bytes_nil w src e hs he 0 0 dst hd
    | some ad =>
      rw [run_convert_bytes_string w src dst e _ 0 0 hs he hd]
      have := run_bytesToString (P := P) w ad 0 0 [] (by simpa using run_loadCells_list (P := P) w ad [] (fun j v hj => by simp at hj))
      have e0 : strNums (nums []) = ByteArray.empty := rfl
      rw [e0]
      simpa using this
  · have := run_convert_bytes_arg (P := P) w src e hs he b o rows.length c (nums rows) (by simp [nums]) (fun i hi => by
      have hr : rows[i]? = some rows[i] := List.getElem?_eq_getElem hi
      obtain ⟨n, hn⟩ := isBytes_all hb _ (mem_get hr)
      have hcl := hcell i 0 rows[i] (.int .u8 n) hr (by rw [hn]; rfl)
      have hq : o + i < cs.size := by omega
      have e1 : cs.getD (o + i * 1 + 0) default = .int .u8 n := by
        generalize cs.getD (o + i * 1 + 0) default = x at hcl
        cases hcl
        rfl
      rw [cell_of hb']
      have e2 : cs[o + i]? = some (cs.getD (o + i) default) := by simp [Array.getD_eq_getD_getElem?, hq]
      rw [e2]
      simp only [Nat.mul_one, Nat.add_zero] at e1
      rw [e1]
      have e3 : (nums rows).getD i 0 = n := by
        simp [nums, List.getD_eq_getElem?_getD, hi, hn]
      rw [e3]) dst hd
    exact this
theorem ev_convert (hT : TysOK P cfg.ty) {s d : TypeId} {x : Operand} {Q : Exit → Act → World → Prop} (ho : o.op = .convert s d x) (h : evOp cfg lv slot o st c = some res) (I : Inv C ts w a st wr g) : o.wp P a w (Post C ts c res) Q := by
  simp only [evOp, ho] at h
  obtain ⟨ti, hti, h⟩ := tyK_inv h
  obtain ⟨av, h, H⟩ := opnd_sound h I.good.env
  unfold convOp at h
  obtain ⟨tj, htj, h⟩ := tyK_inv h
  obtain ⟨d1, hd1, hsh1⟩ := (hT _ hti).under
  obtain ⟨d2, hd2, hsh⟩ := (hT _ htj).under
  simp only at hd1 hd2 hsh1 hsh
  split at h
  · rename_i kd kd' n hs _
    rw [hs] at hsh
    simp only [ShOK] at hsh
    subst hsh
    generalize hx : a.eval x = vx at H
    cases H
    refine wp_value (s := convert s d (a.eval x)) (v := .int kd (kd.wrap n)) (w' := w) (by simp only [execOp, ho]) ?_ (I.put h (.int _ _))
    rw [hx]
    simp only [convert, Sem.run_bind, run_underlying hd1, run_underlying hd2, Result.andThen_ok]
    rfl
  · rename_i e s' hs _
    rw [hs] at hsh
    simp only [ShOK] at hsh
    subst hsh
    split at h
    · rename_i hs1
      rw [hs1] at hsh1
      simp only [ShOK] at hsh1
      subst hsh1
      obtain ⟨te, hte, h⟩ := tyK_inv h
      obtain ⟨de, hde, hshe⟩ := (hT _ hte).under
      simp only at hde hshe
      split at h
      · rename_i hse
        rw [hse] at hshe
        simp only [ShOK] at hshe
        subst hshe
        generalize hx : a.eval x = vx at H
        cases H
        obtain ⟨hsl, h⟩ := newRoot_inv h
        have hrun := run_bytes_of_string (P := P) w s d e s' hd1 hd2 hde
        have Gd := (bytes_cells (w := w.drew) (K := Kr w.drew wr false) s').grid (h := st.heap) (g := g) (fun _ h => h.elim) (Array.replicate (grownCap w s'.size 0 e - s'.size) (.int .u8 0))
        have ecs : (byteCells s').toArray ++ Array.replicate (grownCap w s'.size 0 e - s'.size) (Value.int .u8 0) = bytesRow s' (grownCap w s'.size 0 e) := by
          apply Array.toList_inj.1
          simp [byteCells, bytesRow]
        rw [ecs] at Gd
        have hcap := grownCap_ge w s'.size 0 e
        have hsize : (bytesRow s' (grownCap w s'.size 0 e)).size = grownCap w s'.size 0 e := by
          simp only [bytesRow, Array.size_append, Array.size_map, Array.size_replicate]
          show s'.size + _ = _
          omega
        have hlen : (List.map (fun b => [AV.int IntKind.u8 (b.toNat : Int)]) s'.data.toList).length = s'.size := by rw [List.length_map, Array.length_toList]; rfl
        obtain ⟨g', k1, k2, _⟩ := (Good.heap (w := w) (w' := w.drew) rfl I.good).blockF (e := e) hsl (grownCap w s'.size 0 e) ((bytesRow s' (grownCap w s'.size 0 e)).size, (bytesRow s' (grownCap w s'.size 0 e)).size + 1) (fun q hq => by rw [hsize]; simp only; omega) Gd (by rw [hlen]; exact hcap) (by rw [hsize]; omega) (fun h => by cases h) (by decide)
        rw [hlen] at k2
        refine wp_value (s := convert s d (a.eval x)) (by simp only [execOp, ho]) (by rw [hx]; exact hrun) ?_
        have I' : Inv C ts w.drew a st wr g := I.drew
        exact (I'.alloc k1).put h (.ref k2)
      · cases h
    · cases h
  · rename_i hs _
    rw [hs] at hsh
    simp only [ShOK] at hsh
    subst hsh
    split at h
    · rename_i e hs1
      rw [hs1] at hsh1
      simp only [ShOK] at hsh1
      subst hsh1
      obtain ⟨te, hte, h⟩ := tyK_inv h
      obtain ⟨de, hde, hshe⟩ := (hT _ hte).under
      simp only at hde hshe
      split at h
      · rename_i hse
        rw [hse] at hshe
        simp only [ShOK] at hshe
        subst hshe
        obtain ⟨av', h, T⟩ := VR.closed I.good.rel h H
        split at h
        · split at h
          · rename_i h1
            simp only [decide_eq_true_eq] at h1
            subst h1
            rcases br_inv h with ⟨hb, h⟩ | ⟨_, h⟩
            · exact wp_value (s := convert s d (a.eval x)) (by simp only [execOp, ho]) (TR.bytes T hb hd1 hde hd2) (I.put h (.str _))
            · cases h
          · cases h
        · cases h
      · cases h
    · cases h
  · cases h
end
end Go.Abs

/- Soundness 49: the values of operations that change nothing. -/
namespace Go.Abs

theorem opnd_cases (e : List AV) (x : Operand) : (∀ k, opnd e x k = none) ∨ ∃ a, ∀ k, opnd e x k = k a := by
  cases x with
  | tmp t =>
    simp only [opnd]
    induction e generalizing t with
    | nil => exact .inl fun _ => rfl
    | cons a l ih => cases t with
      | zero => exact .inr ⟨a, fun _ => rfl⟩
      | succ t => exact ih t
  | const v =>
    cases v <;> first
      | exact .inr ⟨_, fun _ => rfl⟩
      | exact .inl fun _ => rfl
      | skip
    case pointer a => cases a with
      | none => exact .inr ⟨_, fun _ => rfl⟩
      | some a => exact .inl fun _ => rfl
    case slice a l c =>
      cases a with
      | some a => exact .inl fun _ => rfl
      | none => cases l with
        | succ l => exact .inl fun _ => rfl
        | zero => cases c with
          | succ c => exact .inl fun _ => rfl
          | zero => exact .inr ⟨.emp, fun _ => rfl⟩
  | func f => exact .inr ⟨_, fun _ => rfl⟩
  | global g => exact .inl fun _ => rfl
theorem opnds_cases (e : List AV) : ∀ (l : List Operand), (∀ k, opnds e l k = none) ∨ ∃ a, ∀ k, opnds e l k = k a
  | [] => .inr ⟨[], fun _ => rfl⟩
  | x :: l => by
    rcases opnd_cases e x with h | ⟨a, h⟩
    · exact .inl fun k => by simp only [opnds, h]
    · rcases opnds_cases e l with h2 | ⟨b, h2⟩
      · exact .inl fun k => by simp only [opnds, h, h2]
      · exact .inr ⟨a :: b, fun k => by simp only [opnds, h, h2]⟩
theorem tyK_cases (l : List (TypeId × TInfo)) (t : TypeId) : (∀ k, tyK l t k = none) ∨ ∃ a, ∀ k, tyK l t k = k a := by
  induction l with
  | nil => exact .inl fun _ => rfl
  | cons a l ih =>
    obtain ⟨t', x⟩ := a
    by_cases h : t' = t
    · exact .inr ⟨x, fun k => by simp only [tyK, if_pos h]⟩
    · rcases ih with h2 | ⟨b, h2⟩
      · exact .inl fun k => by simp only [tyK, if_neg h, h2]
      · exact .inr ⟨b, fun k => by simp only [tyK, if_neg h, h2]⟩
theorem getE_cases (l : List AV) (n : Nat) : (∀ k, getE l n k = none) ∨ ∃ a, ∀ k, getE l n k = k a := by
  induction l generalizing n with
  | nil => exact .inl fun _ => rfl
  | cons a l ih => cases n with
    | zero => exact .inr ⟨a, fun _ => rfl⟩
    | succ n => exact ih n
theorem getRow_cases (l : Rows) (n : Nat) : (∀ k, getRow l n k = none) ∨ ∃ a, ∀ k, getRow l n k = k a := by
  induction l generalizing n with
  | nil => exact .inl fun _ => rfl
  | cons a l ih => cases n with
    | zero => exact .inr ⟨a, fun _ => rfl⟩
    | succ n => exact ih n
theorem getH_cases (l : Heap) (n : Nat) : (∀ k, getH l n k = none) ∨ ∃ a, ∀ k, getH l n k = k a := by
  induction l generalizing n with
  | nil => exact .inl fun _ => rfl
  | cons a l ih => cases n with
    | zero => cases a with
      | none => exact .inl fun _ => rfl
      | some x => exact .inr ⟨x, fun _ => rfl⟩
    | succ n => exact ih n
theorem navR_cases (p : Path) : ∀ (sz : Nat) (rows : Rows), (∀ k, navR0 p sz rows k = none) ∨ ∃ a b, ∀ k, navR0 p sz rows k = k a b := by
  induction p with
  | nil => exact fun sz rows => .inr ⟨sz, rows, fun _ => rfl⟩
  | cons q p ih =>
    intro sz rows
    obtain ⟨i, j⟩ := q
    rcases getRow_cases rows i with h | ⟨row, h⟩
    · exact .inl fun k => by simp only [navR0, h]
    · rcases getE_cases row j with h2 | ⟨v, h2⟩
      · exact .inl fun k => by simp only [navR0, h, h2]
      · cases v with
        | lst sz' rows' =>
          rcases ih sz' rows' with h3 | ⟨a, b, h3⟩
          · exact .inl fun k => by simp only [navR0, h, h2, h3]
          · exact .inr ⟨a, b, fun k => by simp only [navR0, h, h2, h3]⟩
        | _ => exact .inl fun k => by simp only [navR0, h, h2]
theorem nav_cases (h : Heap) (r : Nat) (p : Path) : (∀ k, nav h r p k = none) ∨ ∃ x a b, ∀ k, nav h r p k = k x a b := by
  rcases getH_cases h r with h1 | ⟨x, h1⟩
  · exact .inl fun k => by simp only [nav, h1]
  · rcases navR_cases p x.sz x.rows with h2 | ⟨a, b, h2⟩
    · exact .inl fun k => by simp only [nav, navT_eq, h1, h2]
    · exact .inr ⟨x, a, b, fun k => by simp only [nav, navT_eq, h1, h2]⟩
theorem dropK_cases (n : Nat) : ∀ (l : List AV), (∀ k, dropK n l k = none) ∨ ∃ a, ∀ k, dropK n l k = k a := by
  induction n with
  | zero => exact fun l => .inr ⟨l, fun _ => rfl⟩
  | succ n ih => intro l; cases l with
    | nil => exact .inl fun _ => rfl
    | cons a l => exact ih l
theorem cut_cases (n : Nat) : ∀ (l : List AV), (∀ k, cut n l k = none) ∨ ∃ a b, ∀ k, cut n l k = k a b := by
  induction n with
  | zero => exact fun l => .inr ⟨[], l, fun _ => by simp [cut]⟩
  | succ n ih => intro l; cases l with
    | nil => exact .inl fun _ => rfl
    | cons a l =>
      rcases ih l with h | ⟨x, y, h⟩
      · exact .inl fun k => by simp only [cut, h]
      · exact .inr ⟨a :: x, y, fun k => by simp only [cut, h]⟩
theorem snoc_cases (p : Path) (i j : Nat) : ∃ a, ∀ k, snoc p i j k = k a := by
  induction p with
  | nil => exact ⟨_, fun _ => rfl⟩
  | cons a p ih => obtain ⟨q, h⟩ := ih; exact ⟨a :: q, fun k => by simp only [snoc, h]⟩
theorem loadCell_cases (r : Nat) (p : Path) (i j : Nat) (v : AV) : (∀ k, loadCell r p i j v k = none) ∨ ∃ a, ∀ k, loadCell r p i j v k = k a := by
  cases v <;> first
    | exact .inl fun _ => rfl
    | exact .inr ⟨_, fun _ => rfl⟩
    | skip
  obtain ⟨q, h⟩ := snoc_cases p i j
  exact .inr ⟨.ref r q, fun k => by simp only [loadCell, h]⟩
theorem loadN_cases (r : Nat) (p : Path) (i : Nat) (n : Nat) : ∀ (j : Nat) (l : List AV), (∀ k, loadN r p i n j l k = none) ∨ ∃ a, ∀ k, loadN r p i n j l k = k a := by
  induction n with
  | zero => exact fun j l => .inr ⟨[], fun _ => by simp [loadN]⟩
  | succ n ih => intro j l; cases l with
    | nil => exact .inl fun _ => rfl
    | cons v l =>
      rcases loadCell_cases r p i j v with h | ⟨a, h⟩
      · exact .inl fun k => by simp only [loadN, h]
      · rcases ih (j + 1) l with h2 | ⟨b, h2⟩
        · exact .inl fun k => by simp only [loadN, h, h2]
        · exact .inr ⟨a :: b, fun k => by simp only [loadN, h, h2]⟩
theorem loadT_cases (cfg : Cfg) (t : TypeId) (h : Heap) (a : AV) : (∀ k, loadT cfg t h a k = none) ∨ ∃ v, ∀ k, loadT cfg t h a k = k v := by
  cases a <;> first
    | exact .inl fun _ => rfl
    | skip
  rename_i r p i j
  rcases nav_cases h r p with h1 | ⟨x, sz, rows, h1⟩
  · exact .inl fun k => by simp only [loadT, h1]
  · rcases getRow_cases rows i with h2 | ⟨row, h2⟩
    · exact .inl fun k => by simp only [loadT, h1, h2]
    · rcases dropK_cases j row with h3 | ⟨row', h3⟩
      · exact .inl fun k => by simp only [loadT, h1, h2, h3]
      · rcases tyK_cases cfg.ty t with h4 | ⟨ti, h4⟩
        · exact .inl fun k => by simp only [loadT, h1, h2, h3, h4]
        · by_cases hs : ∃ fs, ti.shape = .struct fs
          · obtain ⟨fs, hs⟩ := hs
            rcases loadN_cases r p i ti.size j row' with h5 | ⟨vs, h5⟩
            · exact .inl fun k => by simp only [loadT, h1, h2, h3, h4, hs, h5]
            · exact .inr ⟨.agg vs, fun k => by simp only [loadT, h1, h2, h3, h4, hs, h5]⟩
          · cases row' with
            | nil =>
              refine .inl fun k => ?_
              simp only [loadT, h1, h2, h3, h4]
              split
              · rename_i fs hf; exact absurd ⟨fs, hf⟩ hs
              · rfl
            | cons v l =>
              have key : ∀ k, loadT cfg t h (.ptr r p i j) k = loadCell r p i j v k := by
                intro k
                simp only [loadT, h1, h2, h3, h4]
                split
                · rename_i fs hf; exact absurd ⟨fs, hf⟩ hs
                · rfl
              rcases loadCell_cases r p i j v with h5 | ⟨a, h5⟩
              · exact .inl fun k => by rw [key]; exact h5 k
              · exact .inr ⟨a, fun k => by rw [key]; exact h5 k⟩
theorem elemSz_cases (cfg : Cfg) (t : TypeId) : (∀ k, elemSz cfg t k = none) ∨ ∃ n, ∀ k, elemSz cfg t k = k n := by
  rcases tyK_cases cfg.ty t with h | ⟨x, h⟩
  · exact .inl fun k => by simp only [elemSz, h]
  · cases hs : x.shape with
    | slice e =>
      rcases tyK_cases cfg.ty e with h2 | ⟨y, h2⟩
      · exact .inl fun k => by simp only [elemSz, h, hs, h2]
      · exact .inr ⟨y.size, fun k => by simp only [elemSz, h, hs, h2]⟩
    | _ => exact .inr ⟨0, fun k => by simp only [elemSz, h, hs]⟩
theorem elemT_cases (cfg : Cfg) (t : TypeId) : (∀ k, elemT cfg t k = none) ∨ ∃ n, ∀ k, elemT cfg t k = k n := by
  rcases tyK_cases cfg.ty t with h | ⟨x, h⟩
  · exact .inl fun k => by simp only [elemT, h]
  · cases hs : x.shape with
    | slice e =>
      rcases tyK_cases cfg.ty e with h2 | ⟨y, h2⟩
      · exact .inl fun k => by simp only [elemT, h, hs, h2]
      · exact .inr ⟨y.size, fun k => by simp only [elemT, h, hs, h2]⟩
    | _ => exact .inl fun k => by simp only [elemT, h, hs]
theorem slice3_cases (h : Heap) (v : AV) : (∀ k, slice3 h v k = none) ∨ ∃ a b c d e f, ∀ k, slice3 h v k = k a b c d e f := by
  cases v <;> first
    | exact .inl fun _ => rfl
    | skip
  case ref r p =>
    rcases nav_cases h r p with h1 | ⟨x, sz, rows, h1⟩
    · exact .inl fun k => by simp only [slice3, h1]
    · exact .inr ⟨r, p, 0, rows.length, sz, rows, fun k => by simp only [slice3, h1]⟩
  case sub r p off len =>
    rcases nav_cases h r p with h1 | ⟨x, sz, rows, h1⟩
    · exact .inl fun k => by simp only [slice3, h1]
    · exact .inr ⟨r, p, off, len, sz, rows, fun k => by simp only [slice3, h1]⟩
theorem lenOf_cases (h : Heap) (v : AV) : (∀ k, lenOf h v k = none) ∨ ∃ a, ∀ k, lenOf h v k = k a := by
  cases v <;> first
    | exact .inl fun _ => rfl
    | exact .inr ⟨_, fun _ => rfl⟩
    | skip
  rename_i r p
  rcases nav_cases h r p with h1 | ⟨x, sz, rows, h1⟩
  · exact .inl fun k => by simp only [lenOf, h1]
  · exact .inr ⟨rows.length, fun k => by simp only [lenOf, h1]⟩

/-- what is handed on: always the same values, whatever comes behind -/
def Lin (X : (AV → R) → R) : Prop := (∀ k, X k = none) ∨ ∃ V : AV → Prop, (∃ v, V v) ∧ ∀ k res, X k = some res ↔ ∀ v, V v → k v = some res
theorem Lin.none' : Lin fun _ => none := .inl fun _ => rfl
theorem Lin.one (v : AV) : Lin fun k => k v := .inr ⟨(· = v), ⟨v, rfl⟩, fun k res => ⟨fun h u hu => by cases hu; exact h, fun h => h v rfl⟩⟩
theorem Lin.congr {X Y : (AV → R) → R} (h : Lin X) (e : ∀ k, Y k = X k) : Lin Y := by
  have : Y = X := funext e
  rw [this]; exact h
theorem Lin.br {b : Bool} {X Y : (AV → R) → R} (hx : Lin X) (hy : Lin Y) : Lin fun k => br b (X k) (Y k) := by
  cases b with
  | true => exact hx.congr fun k => br_true _ _
  | false => exact hy.congr fun k => br_false _ _
theorem both_iff {x y : R} {res : Res} : both x y = some res ↔ x = some res ∧ y = some res := by
  unfold both
  split
  · rename_i h; subst h; simp
  · rename_i h
    simp only [reduceCtorEq, false_iff, not_and]
    intro h1 h2
    exact h (h1.trans h2.symm)
theorem Lin.both {X Y : (AV → R) → R} (hx : Lin X) (hy : Lin Y) : Lin fun k => both (X k) (Y k) := by
  rcases hx with hx | ⟨V, ⟨v, hv⟩, hV⟩
  · refine .inl fun k => ?_
    cases h : Abs.both (X k) (Y k) with
    | none => exact h
    | some r => have := (both_iff.1 h).1; rw [hx] at this; cases this
  · rcases hy with hy | ⟨W, _, hW⟩
    · refine .inl fun k => ?_
      cases h : Abs.both (X k) (Y k) with
      | none => exact h
      | some r => have := (both_iff.1 h).2; rw [hy] at this; cases this
    · exact .inr ⟨fun u => V u ∨ W u, ⟨v, .inl hv⟩, fun k res => by
        rw [both_iff, hV, hW]
        exact ⟨fun h u hu => hu.elim (h.1 u) (h.2 u), fun h => ⟨fun u hu => h u (.inl hu), fun u hu => h u (.inr hu)⟩⟩⟩
theorem eqCells_cases : ∀ (x y : List AV), (∀ k, eqCells x y k = none) ∨ ∃ b, ∀ k, eqCells x y k = k b
  | [], [] => .inr ⟨true, fun _ => rfl⟩
  | [], _ :: _ => .inl fun _ => rfl
  | _ :: _, [] => .inl fun _ => rfl
  | a :: x, b :: y => by
    have ih := eqCells_cases x y
    cases a <;> cases b <;> first
      | exact .inl fun _ => rfl
      | skip
    all_goals
      first
        | (rename_i c m d n
           by_cases hcd : c = d
           · rcases ih with h | ⟨t, h⟩
             · exact .inl fun k => by simp only [eqCells, hcd, decide_true, h]
             · exact .inr ⟨m == n && t, fun k => by simp only [eqCells, hcd, decide_true, h]⟩
           · exact .inl fun k => by simp only [eqCells, hcd, decide_false])
        | (rename_i m n
           rcases ih with h | ⟨t, h⟩
           · exact .inl fun k => by simp only [eqCells, h]
           · exact .inr ⟨m == n && t, fun k => by simp only [eqCells, h]⟩)
theorem memT_cases (l : List TypeId) (t : TypeId) : (∀ k, memT l t k = none) ∨ ∀ k, memT l t k = k := by
  induction l with
  | nil => exact .inl fun _ => rfl
  | cons a l ih =>
    by_cases h : a = t
    · exact .inr fun k => by simp only [memT, if_pos h]
    · rcases ih with h2 | h2
      · exact .inl fun k => by simp only [memT, if_neg h, h2]
      · exact .inr fun k => by simp only [memT, if_neg h, h2]
theorem Lin.of {X : (AV → R) → R} (h : (∀ k, X k = none) ∨ ∃ a, ∀ k, X k = k a) : Lin X := by
  rcases h with h | ⟨a, h⟩
  · exact .inl h
  · exact (Lin.one a).congr h

end Go.Abs

/- Soundness 50: the value of an operation that changes nothing, for each kind. -/
namespace Go.Abs

theorem opnd_mono {e : List AV} {x : Operand} {k k' : AV → R} {res : Res} (h : opnd e x k = some res) (hk : ∀ v, k v = some res → k' v = some res) : opnd e x k' = some res := by
  rcases opnd_cases e x with h0 | ⟨a, h0⟩
  · rw [h0] at h; cases h
  · rw [h0] at h ⊢; exact hk a h
theorem opnds_mono {e : List AV} {x : List Operand} {k k' : List AV → R} {res : Res} (h : opnds e x k = some res) (hk : ∀ v, k v = some res → k' v = some res) : opnds e x k' = some res := by
  rcases opnds_cases e x with h0 | ⟨a, h0⟩
  · rw [h0] at h; cases h
  · rw [h0] at h ⊢; exact hk a h
theorem Lin.opnd {e : List AV} {x : Operand} {X : AV → (AV → R) → R} (h : ∀ v, Lin (X v)) : Lin fun k => opnd e x fun v => X v k := by
  rcases opnd_cases e x with h0 | ⟨a, h0⟩
  · exact .inl fun k => h0 _
  · exact (h a).congr fun k => h0 _
theorem Lin.tyK {l : List (TypeId × TInfo)} {t : TypeId} {X : TInfo → (AV → R) → R} (h : ∀ v, Lin (X v)) : Lin fun k => tyK l t fun v => X v k := by
  rcases tyK_cases l t with h0 | ⟨a, h0⟩
  · exact .inl fun k => h0 _
  · exact (h a).congr fun k => h0 _

theorem cl0_cases (h : Heap) (esz : Nat) (v : AV) : (∀ k, cl0 h esz v k = none) ∨ ∃ a, ∀ k, cl0 h esz v k = k a := by
  cases v with
  | ref r p =>
    rcases nav_cases h r p with h1 | ⟨x, sz, rows, h1⟩
    · exact .inl fun k => by simp only [cl0, h1]
    · by_cases hb : x.box = true ∧ p = []
      · obtain ⟨hb, rfl⟩ := hb
        exact .inl fun k => by simp only [cl0, h1, hb]
      · refine .inr ⟨.lst sz rows, fun k => ?_⟩
        simp only [cl0, h1]
        split
        · rename_i e1; exact absurd ⟨e1, rfl⟩ hb
        · rfl
  | sub r p off len =>
    rcases nav_cases h r p with h1 | ⟨x, sz, rows, h1⟩
    · exact .inl fun k => by simp only [cl0, h1]
    · by_cases hb : x.box = true ∧ p = []
      · obtain ⟨hb, rfl⟩ := hb
        exact .inl fun k => by simp only [cl0, h1, hb]
      · refine .inr ⟨.lst sz ((rows.drop off).take len), fun k => ?_⟩
        simp only [cl0, h1]
        split
        · rename_i e1; exact absurd ⟨e1, rfl⟩ hb
        · rfl
  | _ => first
    | exact .inl fun _ => rfl
    | exact .inr ⟨_, fun _ => rfl⟩
theorem clL0_cases (h : Heap) (esz : Nat) : ∀ (l : List AV), (∀ k, clL0 h esz l k = none) ∨ ∃ a, ∀ k, clL0 h esz l k = k a
  | [] => .inr ⟨[], fun _ => rfl⟩
  | v :: l => by
    rcases cl0_cases h esz v with h1 | ⟨a, h1⟩
    · exact .inl fun k => by simp only [clL0, h1]
    · rcases clL0_cases h esz l with h2 | ⟨b, h2⟩
      · exact .inl fun k => by simp only [clL0, h1, h2]
      · exact .inr ⟨a :: b, fun k => by simp only [clL0, h1, h2]⟩
theorem clP_cases (h : Heap) (n : Nat) (v : AV) : (∀ k, clP h n v k = none) ∨ ∃ a, ∀ k, clP h n v k = k a := by
  cases v with
  | ptr r p i j =>
    cases n with
    | zero => exact .inl fun _ => rfl
    | succ n =>
      rcases nav_cases h r p with h1 | ⟨x, sz, rows, h1⟩
      · exact .inl fun k => by simp only [clP, h1]
      · rcases getRow_cases rows i with h2 | ⟨row, h2⟩
        · exact .inl fun k => by simp only [clP, h1, h2]
        · rcases dropK_cases j row with h3 | ⟨row', h3⟩
          · exact .inl fun k => by simp only [clP, h1, h2, h3]
          · rcases cut_cases (n + 1) row' with h4 | ⟨x, y, h4⟩
            · exact .inl fun k => by simp only [clP, h1, h2, h3, h4]
            · rcases clL0_cases h 0 x with h5 | ⟨z, h5⟩
              · exact .inl fun k => by simp only [clP, h1, h2, h3, h4, h5]
              · exact .inr ⟨.pv z, fun k => by simp only [clP, h1, h2, h3, h4, h5]⟩
  | nilp => exact .inr ⟨.nilp, fun _ => rfl⟩
  | _ => exact .inl fun _ => rfl
theorem clC_cases (h : Heap) : ∀ (l : List AV), (∀ k, clC h l k = none) ∨ ∃ a, ∀ k, clC h l k = k a
  | [] => .inr ⟨[], fun _ => rfl⟩
  | v :: l => by
    have one : ∀ X : (AV → R) → R, ((∀ k, X k = none) ∨ ∃ a, ∀ k, X k = k a) → (∀ k, clC h (v :: l) k = X fun v => clC h l fun l => k (v :: l)) → (∀ k, clC h (v :: l) k = none) ∨ ∃ a, ∀ k, clC h (v :: l) k = k a := by
      intro X hX e
      rcases hX with h1 | ⟨a, h1⟩
      · exact .inl fun k => by rw [e, h1]
      · rcases clC_cases h l with h2 | ⟨b, h2⟩
        · exact .inl fun k => by rw [e, h1, h2]
        · exact .inr ⟨a :: b, fun k => by rw [e, h1, h2]⟩
    have plain : (∀ k, clC h (v :: l) k = cl0 h 0 v fun v => clC h l fun l => k (v :: l)) → (∀ k, clC h (v :: l) k = none) ∨ ∃ a, ∀ k, clC h (v :: l) k = k a := fun e => one _ (cl0_cases h 0 v) e
    cases v with
    | ptr r p i j =>
      cases p with
      | cons q p => exact .inl fun _ => rfl
      | nil => cases i with
        | succ i => exact .inl fun _ => rfl
        | zero => cases j with
          | succ j => exact .inl fun _ => rfl
          | zero =>
            rcases nav_cases h r [] with h1 | ⟨x, n, rows, h1⟩
            · exact .inl fun k => by simp only [clC, h1]
            · exact one _ (clP_cases h n (.ptr r [] 0 0)) fun k => by simp only [clC, h1]
    | _ => exact plain fun k => rfl
theorem cl1_cases (cfg : Cfg) (h : Heap) (t : TypeId) (v : AV) : (∀ k, cl1 cfg h t v k = none) ∨ ∃ a, ∀ k, cl1 cfg h t v k = k a := by
  have plain : (∀ k, cl1 cfg h t v k = elemSz cfg t fun esz => cl0 h esz v k) → (∀ k, cl1 cfg h t v k = none) ∨ ∃ a, ∀ k, cl1 cfg h t v k = k a := by
    intro e
    rcases elemSz_cases cfg t with h1 | ⟨n, h1⟩
    · exact .inl fun k => by rw [e, h1]
    · rcases cl0_cases h n v with h2 | ⟨a, h2⟩
      · exact .inl fun k => by rw [e, h1, h2]
      · exact .inr ⟨a, fun k => by rw [e, h1, h2]⟩
  cases v with
  | agg cs =>
    rcases clL0_cases h 0 cs with h1 | ⟨a, h1⟩
    · exact .inl fun k => by simp only [cl1, h1]
    · exact .inr ⟨.agg a, fun k => by simp only [cl1, h1]⟩
  | fn f cs =>
    rcases clC_cases h cs with h1 | ⟨a, h1⟩
    · exact .inl fun k => by simp only [cl1, h1]
    · exact .inr ⟨.fn f a, fun k => by simp only [cl1, h1]⟩
  | ptr r p i j =>
    rcases tyK_cases cfg.ty t with h1 | ⟨x, h1⟩
    · exact .inl fun k => by simp only [cl1, h1]
    · cases hs : x.shape with
      | ptr e =>
        rcases tyK_cases cfg.ty e with h2 | ⟨y, h2⟩
        · exact .inl fun k => by simp only [cl1, h1, hs, h2]
        · rcases clP_cases h y.size (.ptr r p i j) with h3 | ⟨a, h3⟩
          · exact .inl fun k => by simp only [cl1, h1, hs, h2, h3]
          · exact .inr ⟨a, fun k => by simp only [cl1, h1, hs, h2, h3]⟩
      | _ => exact .inl fun k => by simp only [cl1, h1, hs]
  | _ => exact plain fun k => rfl
theorem clArgs_cases (cfg : Cfg) (h : Heap) : ∀ (ts : List TypeId) (l : List AV), (∀ k, clArgs cfg h ts l k = none) ∨ ∃ a, ∀ k, clArgs cfg h ts l k = k a
  | [], [] => .inr ⟨[], fun _ => rfl⟩
  | [], _ :: _ => .inl fun _ => rfl
  | _ :: _, [] => .inl fun _ => rfl
  | t :: ts, v :: l => by
    rcases cl1_cases cfg h t v with h1 | ⟨a, h1⟩
    · exact .inl fun k => by simp only [clArgs, h1]
    · rcases clArgs_cases cfg h ts l with h2 | ⟨b, h2⟩
      · exact .inl fun k => by simp only [clArgs, h1, h2]
      · exact .inr ⟨a :: b, fun k => by simp only [clArgs, h1, h2]⟩
theorem bnd_cases (x : R) : (∀ k, bnd x k = none) ∨ ∃ a, x = some a ∧ ∀ k, bnd x k = k a := by
  cases x with
  | none => exact .inl fun k => bnd_none k
  | some a => exact .inr ⟨a, rfl, fun k => bnd_some _ _⟩

section
variable {P : Program} {cfg : Cfg} {lv : Lev} {o : Oper} {slot : Nat} {st : St} {c : St → R} {res : Res}

/-- what is evaluated where the order is drawn is what is evaluated elsewhere -/
theorem valD_ev (h : valD cfg lv o st.env st.heap (fun v => putD st o.dst v c) = some res) : evOp cfg lv slot o st c = some res := by
  unfold valD at h
  unfold evOp
  split at h
  · rename_i x ho
    simp only [ho]
    exact opnd_mono h fun v hv => by
      cases v <;> first | exact hv | (cases hv; done)
  · rename_i x ho
    simp only [ho]
    exact opnd_mono h fun v hv => by
      cases v <;> first | exact hv | (cases hv; done)
  · rename_i ho; simp only [ho]; exact h
  · rename_i ho; simp only [ho]; exact h
  · rename_i ho; simp only [ho]; exact h
  · rename_i ho; simp only [ho]; exact h
  · rename_i ho; simp only [ho]; exact h
  · rename_i ho; simp only [ho]; exact h
  · rename_i ho; simp only [ho]; exact h
  · rename_i ho; simp only [ho]; exact h
  · rename_i ho; simp only [ho]; exact h
  · rename_i ho; simp only [ho]; exact h
  · rename_i cl ho
    simp only [ho]
    refine opnds_mono h fun vs hv => ?_
    split at hv
    · rename_i b hb
      (try simp only [hb])
      split at hv
      · split at hv
        · rename_i t v ht
          simp only [builtinOp, ht]
          exact hv
        · cases hv
      · cases hv
    · rename_i fo hb
      (try simp only [hb])
      split at hv
      · rename_i f
        split at hv
        · rename_i hm
          simp only [opnd, callC, callF, hm]
          rcases clArgs_cases cfg st.heap cl.argTypes.toList vs with h1 | ⟨vs', h1⟩
          · rw [h1] at hv; cases hv
          · rw [h1] at hv ⊢
            rcases bnd_cases (lv.pure f vs') with h2 | ⟨r, _, h2⟩
            · rw [h2] at hv; cases hv
            · rw [h2] at hv ⊢
              obtain ⟨v, out⟩ := r
              cases v <;> first | exact hv | (cases hv; done)
        · cases hv
      · cases hv
    · cases hv
  · cases h

theorem intOp_lin (op : BinOp) (kd : IntKind) (a b : Int) : Lin (intOp op kd a b) := by
  cases op <;> first
    | exact Lin.one _
    | exact Lin.none'
    | exact Lin.br Lin.none' (Lin.one _)
theorem shOp_lin (op : BinOp) (kd : IntKind) (a b : Int) : Lin (shOp op kd a b) := by
  cases op <;> first
    | exact Lin.none'
    | exact Lin.br Lin.none' (Lin.one _)
theorem strOp_lin (op : BinOp) (a b : ByteArray) : Lin (strOp op a b) := by
  cases op <;> first
    | exact Lin.one _
    | exact Lin.none'
    | exact Lin.br (Lin.one _) Lin.none'
theorem eqOp_lin (cfg : Cfg) (t : TypeId) (h : Heap) (a b : AV) (m : Bool → AV) : Lin fun k => eqOp cfg t h a b fun v => k (m v) := by
  unfold eqOp
  refine Lin.tyK fun x => ?_
  have nilEq : ∀ c : Bool, Lin fun k => br c (both (k (m true)) (k (m false))) (k (m false)) := fun c => Lin.br (Lin.both (Lin.one _) (Lin.one _)) (Lin.one _)
  split
  · exact Lin.one _
  · rename_i ms ns _
    rcases memT_cases cfg.eqs t with h1 | h1
    · exact .inl fun k => h1 _
    · rcases eqCells_cases ms ns with h2 | ⟨b, h2⟩
      · exact .inl fun k => (h1 _).trans (h2 _)
      · exact (Lin.one (m b)).congr fun k => (h1 _).trans (h2 _)
  · exact Lin.one _
  · rename_i r p _
    rcases nav_cases h r p with h1 | ⟨x, sz, rows, h1⟩
    · exact .inl fun k => h1 _
    · exact (nilEq (decide (rows.length = 0))).congr fun k => h1 _
  · exact nilEq _
  · split
    · exact Lin.both (Lin.one _) (Lin.one _)
    · exact Lin.none'
  · exact Lin.one _
  · exact Lin.one _
  · exact Lin.one _
  · exact Lin.one _
  · exact Lin.none'
theorem binOp_lin (cfg : Cfg) (op : BinOp) (t : TypeId) (h : Heap) (a b : AV) : Lin (binOp cfg op t h a b) := by
  have e : ∀ X : (AV → R) → R, Lin X → (∀ k, binOp cfg op t h a b k = X k) → Lin (binOp cfg op t h a b) := fun X hX he => hX.congr he
  unfold binOp
  split
  · split
    · exact shOp_lin _ _ _ _
    · exact shOp_lin _ _ _ _
    · split
      · exact intOp_lin _ _ _ _
      · exact Lin.none'
  · exact strOp_lin _ _ _
  · split
    · exact eqOp_lin cfg t h _ _ fun b => .bool b
    · exact eqOp_lin cfg t h _ _ fun b => .bool !b
    · exact Lin.none'
theorem unOp_lin (op : UnOp) (a : AV) : Lin (unOp op a) := by
  unfold unOp
  split
  · exact Lin.one _
  · exact Lin.one _
  · exact Lin.none'
theorem nth_lin (l : List AV) (n : Nat) : Lin (nth l n) := Lin.of (getE_cases l n)
theorem idxK_lin (cfg : Cfg) (h : Heap) (t : TypeId) (v : AV) (i : Int) : Lin fun k => elemT cfg t fun esz => slice3 h v fun r p off len sz _ => match decide (sz = esz) with
      | true => br (decide (0 ≤ i)) (br (decide (i < (len : Int))) (match off with
        | 0 => k (.ptr r p i.toNat 0)
        | off => k (.ptr r p (off + i.toNat) 0)) none) none
      | false => none := by
  rcases elemT_cases cfg t with h1 | ⟨esz, h1⟩
  · exact .inl fun k => h1 _
  · rcases slice3_cases h v with h2 | ⟨r, p, off, len, sz, rows, h2⟩
    · exact .inl fun k => (h1 _).trans (h2 _)
    · refine Lin.congr ?_ (fun k => (h1 _).trans (h2 _))
      split
      · refine Lin.br (Lin.br ?_ Lin.none') Lin.none'
        split <;> exact Lin.one _
      · exact Lin.none'
theorem lenK_lin (h : Heap) (v : AV) : Lin fun k => match v with
    | .str _ => none
    | v => lenOf h v fun n => k (.int .i64 n) := by
  have main : Lin fun k => lenOf h v fun n => k (.int .i64 n) := by
    rcases lenOf_cases h v with h1 | ⟨n, h1⟩
    · exact .inl fun k => h1 _
    · exact (Lin.one (.int .i64 n)).congr fun k => h1 _
  cases v <;> first | exact Lin.none' | exact main
theorem pureK_lin (cfg : Cfg) (lv : Lev) (h : Heap) (ts : List TypeId) (vs : List AV) (f : FuncId) : Lin fun k => clArgs cfg h ts vs fun vs' => bnd (lv.pure f vs') fun res => match res.val with
          | .bool b => k (.bool b)
          | .int kd n => k (.int kd n)
          | .str s => k (.str s)
          | _ => none := by
  rcases clArgs_cases cfg h ts vs with h1 | ⟨vs', h1⟩
  · exact .inl fun k => h1 _
  · rcases bnd_cases (lv.pure f vs') with h2 | ⟨r, _, h2⟩
    · exact .inl fun k => (h1 _).trans (h2 _)
    · obtain ⟨v, out⟩ := r
      cases v <;> first
        | exact (Lin.one _).congr fun k => (h1 _).trans (h2 _)
        | exact .inl fun k => (h1 _).trans (h2 _)
theorem valD_lin (e : List AV) (h : Heap) : Lin (valD cfg lv o e h) := by
  unfold valD
  split
  · exact Lin.opnd fun v => by split <;> first | exact Lin.none' | exact Lin.one _
  · exact Lin.opnd fun v => by split <;> first | exact Lin.none' | exact Lin.one _
  · exact Lin.opnd fun v => by
      split
      · exact Lin.br (Lin.opnd fun v => Lin.one v) (Lin.opnd fun v => Lin.one v)
      · exact Lin.none'
  · exact Lin.opnd fun v => Lin.of (loadT_cases cfg _ h v)
  · exact Lin.opnd fun v => by split <;> first | exact Lin.none' | exact Lin.one _
  · exact Lin.opnd fun a => Lin.opnd fun b => binOp_lin _ _ _ _ _ _
  · exact Lin.opnd fun a => unOp_lin _ _
  · exact Lin.opnd fun v => Lin.tyK fun t => by
      split
      · split
        · exact Lin.tyK fun y => by split <;> first | exact Lin.none' | exact Lin.one _
        · exact Lin.none'
      · exact Lin.none'
  · exact Lin.opnd fun v => Lin.tyK fun t => by
      split
      · rename_i fs cs _
        split
        · rename_i off ft _
          rcases dropK_cases off cs with h1 | ⟨cs', h1⟩
          · exact .inl fun k => h1 _
          · refine Lin.congr (X := fun k => Abs.tyK cfg.ty ft fun y => match y.shape with | .struct _ => cut y.size cs' fun cs _ => k (.agg cs) | _ => nth cs' 0 k) (Lin.tyK fun y => ?_) (fun k => h1 _)
            split
            · rcases cut_cases y.size cs' with h2 | ⟨a, b, h2⟩
              · exact .inl fun k => h2 _
              · exact (Lin.one (.agg a)).congr fun k => h2 _
            · exact nth_lin _ _
        · exact Lin.none'
      · exact Lin.none'
  · exact Lin.opnd fun v => Lin.opnd fun u => by
      split
      · exact idxK_lin _ _ _ _ _
      · exact Lin.none'
  · exact Lin.tyK fun ti => by
      split
      · exact Lin.opnd fun v => Lin.opnd fun u => by
          split
          · exact Lin.br (Lin.br (Lin.one _) Lin.none') Lin.none'
          · exact Lin.none'
      · exact Lin.none'
  · exact Lin.opnd fun v => by
      split
      · exact nth_lin _ _
      · exact Lin.none'
  · rename_i cl _
    rcases opnds_cases e cl.args.toList with h0 | ⟨vs, h0⟩
    · exact .inl fun k => h0 _
    · refine Lin.congr ?_ (fun k => h0 _)
      split
      · split
        · split
          · exact Lin.tyK fun x => by
              split
              · split
                · exact Lin.one _
                · exact Lin.none'
              · exact lenK_lin _ _
              · exact Lin.none'
          · exact Lin.none'
        · exact Lin.none'
      · split
        · split
          · exact pureK_lin _ _ _ _ _ _
          · exact Lin.none'
        · exact Lin.none'
      · exact Lin.none'
  · exact Lin.none'

/-! ### what it looks at -/
theorem getE_set {e : List AV} {d t : Nat} {v : AV} (h : t ≠ d) (k : AV → R) : getE (e.set d v) t k = getE e t k := by
  induction e generalizing d t with
  | nil => rfl
  | cons a e ih =>
    cases d with
    | zero => cases t with
      | zero => exact absurd rfl h
      | succ t => rfl
    | succ d => cases t with
      | zero => rfl
      | succ t => exact ih (by omega)
theorem opnd_set {e : List AV} {d : Nat} {v : AV} {x : Operand} (h : x ≠ .tmp d) (k : AV → R) : opnd (e.set d v) x k = opnd e x k := by
  cases x with
  | tmp t => exact getE_set (fun e => h (by rw [e])) k
  | const c => rfl
  | func f => rfl
  | global g => rfl
theorem opnds_set {e : List AV} {d : Nat} {v : AV} : ∀ {l : List Operand} (_ : ∀ x ∈ l, x ≠ .tmp d) (k : List AV → R), opnds (e.set d v) l k = opnds e l k
  | [], _, k => rfl
  | x :: l, h, k => by
    have ih := fun k => opnds_set (e := e) (d := d) (v := v) (l := l) (fun y hy => h y (by simp [hy])) k
    simp only [opnds, opnd_set (h x (by simp)), ih]
theorem valD_set {e : List AV} {h : Heap} {d : Nat} {v : AV} (hd : ∀ x ∈ o.op.operands.toList, x ≠ .tmp d) (k : AV → R) : valD cfg lv o (e.set d v) h k = valD cfg lv o e h k := by
  unfold valD
  split <;> rename_i ho <;> simp only [ho, Op.operands, List.mem_cons, List.not_mem_nil, or_false, forall_eq_or_imp, forall_eq] at hd
  all_goals first
    | rfl
    | (simp only [opnd_set hd.1, opnd_set hd.2.1, opnd_set hd.2.2]; done)
    | (simp only [opnd_set hd.1, opnd_set hd.2]; done)
    | (simp only [opnd_set hd]; done)
    | skip
  rename_i cl
  have : ∀ x ∈ cl.args.toList, x ≠ .tmp d := fun x hx => hd x (by simp only [Call.operands, Array.toList_append, List.mem_append]; exact .inr hx)
  rw [opnds_set this]
end
end Go.Abs

/- Soundness 51: regions that draw their order. -/
namespace Go.Abs
noncomputable section
variable {P : Program} {E : Env} {cfg : Cfg} {lv : Lev} {C : Ctx} {ts : List (List Value)} {w : World} {a : Act} {st : St} {wr : Wrs} {g : Gh} {c : St → R} {res : Res}

def stPut (st : St) (d : Option Tmp) (v : AV) : St := match d with | some t => ⟨st.env.set t v, st.stk, st.heap⟩ | none => st
theorem putD_inv {d : Option Tmp} {v : AV} {k : St → R} (h : putD st d v k = some res) : (∀ t, d = some t → t < st.env.length) ∧ k (stPut st d v) = some res := by
  cases d with
  | none => exact ⟨fun t h => (by cases h), h⟩
  | some t =>
    obtain ⟨e, s, hp⟩ := st
    obtain ⟨h1, h2⟩ := setE_inv h
    exact ⟨fun t' h => by cases h; exact h1, h2⟩
theorem putD_eq {d : Option Tmp} {v : AV} {k : St → R} (h : ∀ t, d = some t → t < st.env.length) : putD st d v k = k (stPut st d v) := by
  cases d with
  | none => rfl
  | some t =>
    obtain ⟨e, s, hp⟩ := st
    exact setE_eq (h t rfl)
theorem stPut_len (d : Option Tmp) (v : AV) : (stPut st d v).env.length = st.env.length := by
  cases d <;> simp [stPut]
theorem stPut_heap (d : Option Tmp) (v : AV) : (stPut st d v).heap = st.heap := by cases d <;> rfl

/-- one step of the list, as values -/
def stepV (cfg : Cfg) (lv : Lev) (all : List Oper) (o : Oper) (st : St) (k : AV → R) : R := guardK all o.guard st (valD cfg lv o st.env st.heap k) (k (.tup []))
theorem guardK_lin {all : List Oper} {gd : Option (Nat × Bool)} {X Y : (AV → R) → R} (hx : Lin X) (hy : Lin Y) : Lin fun k => guardK all gd st (X k) (Y k) := by
  unfold guardK
  split
  · exact hx
  · split
    · split
      · rename_i d _
        rcases getE_cases st.env d with h | ⟨v, h⟩
        · exact .inl fun k => h _
        · refine Lin.congr ?_ (fun k => h _)
          split
          · split
            · exact Lin.br hx hy
            · exact Lin.br hy hx
          · exact hy
          · exact Lin.none'
      · exact Lin.none'
    · exact Lin.none'
theorem stepV_lin (all : List Oper) (o : Oper) : Lin (stepV cfg lv all o st) := guardK_lin (valD_lin _ _) (Lin.one _)
theorem stepD_safe {all : List Oper} {o : Oper} (hs : safeOp cfg o = true) : stepD cfg lv all o st c = stepV cfg lv all o st fun v => putD st o.dst v c := by
  unfold stepD stepV
  simp only [hs]
theorem looks_false {all : List Oper} {o : Oper} {d : Nat} (h : looks all o d = false) : (∀ x ∈ o.op.operands.toList, x ≠ .tmp d) ∧ (∀ gj wt p, o.guard = some (gj, wt) → all[gj]? = some p → p.dst ≠ some d) := by
  unfold looks at h
  rw [Bool.or_eq_false_iff] at h
  refine ⟨fun x hx e => ?_, fun gj wt p hg hp e => ?_⟩
  · subst e
    have := List.any_eq_false.1 h.1 _ hx
    simp at this
  · have := h.2
    rw [hg] at this
    simp only [hp, e] at this
    simp at this
theorem stepV_set {all : List Oper} {o : Oper} {d : Option Tmp} {v : AV} (h : ∀ t, d = some t → looks all o t = false) (k : AV → R) : stepV cfg lv all o (stPut st d v) k = stepV cfg lv all o st k := by
  cases d with
  | none => rfl
  | some t =>
    obtain ⟨h1, h2⟩ := looks_false (h t rfl)
    unfold stepV
    have e1 : valD cfg lv o (stPut st (some t) v).env (stPut st (some t) v).heap k = valD cfg lv o st.env st.heap k := valD_set h1 k
    rw [e1]
    unfold guardK
    split
    · rfl
    · rename_i gj wt hg
      split
      · rename_i p hp
        split
        · rename_i d' hd'
          have hne : d' ≠ t := fun e => h2 gj wt p hg hp (by rw [hd', e])
          exact getE_set hne _
        · rfl
      · rfl
theorem apart_spec {all : List Oper} {x y : Oper} (h : apart all x y = true) : (∀ t, x.dst = some t → looks all y t = false ∧ y.dst ≠ some t) ∧ (∀ t, y.dst = some t → looks all x t = false) := by
  unfold apart at h
  rw [Bool.and_eq_true] at h
  refine ⟨fun t ht => ?_, fun t ht => ?_⟩
  · have := h.1
    rw [ht] at this
    simpa using this
  · have := h.2
    rw [ht] at this
    simpa using this
/-- two operations that do not meet, the other way round -/
theorem stepD_swap {all : List Oper} {x y : Oper} (hx : safeOp cfg x = true) (hy : safeOp cfg y = true) (ha : apart all x y = true) (h : stepD cfg lv all x st (fun st => stepD cfg lv all y st c) = some res) :
    stepD cfg lv all y st (fun st => stepD cfg lv all x st c) = some res := by
  obtain ⟨a1, a2⟩ := apart_spec ha
  rw [stepD_safe hx] at h
  rw [stepD_safe hy]
  rcases stepV_lin (cfg := cfg) (lv := lv) (st := st) all x with hX | ⟨V, ⟨v0, hv0⟩, hV⟩
  · rw [hX] at h; cases h
  · rw [hV] at h
    have key : ∀ v, V v → (∀ t, x.dst = some t → t < st.env.length) ∧ stepV cfg lv all y st (fun u => putD (stPut st x.dst v) y.dst u c) = some res := by
      intro v hv
      have h1 := h v hv
      obtain ⟨b1, h1⟩ := putD_inv h1
      refine ⟨b1, ?_⟩
      change stepD cfg lv all y (stPut st x.dst v) c = some res at h1
      rw [stepD_safe hy, stepV_set (fun t ht => (a1 t ht).1)] at h1
      exact h1
    rcases stepV_lin (cfg := cfg) (lv := lv) (st := st) all y with hY | ⟨U, ⟨u0, hu0⟩, hU⟩
    · have := (key v0 hv0).2; rw [hY] at this; cases this
    · rw [hU]
      intro u hu
      have by_ : ∀ t, y.dst = some t → t < st.env.length := by
        have := (hU _ _).1 (key v0 hv0).2 u hu
        obtain ⟨b2, _⟩ := putD_inv this
        rw [stPut_len] at b2
        exact b2
      rw [putD_eq by_]
      change stepD cfg lv all x (stPut st y.dst u) c = some res
      rw [stepD_safe hx, stepV_set (fun t ht => a2 t ht), hV]
      intro v hv
      obtain ⟨b1, h1⟩ := key v hv
      have h2 := (hU _ _).1 h1 u hu
      obtain ⟨_, h2⟩ := putD_inv h2
      rw [putD_eq (by rw [stPut_len]; exact b1)]
      have e : stPut (stPut st y.dst u) x.dst v = stPut (stPut st x.dst v) y.dst u := by
        cases hxd : x.dst with
        | none => cases hyd : y.dst <;> rfl
        | some t =>
          cases hyd : y.dst with
          | none => rfl
          | some t' =>
            have hne : t' ≠ t := fun e => (a1 t hxd).2 (by rw [hyd, e])
            simp only [stPut]
            rw [List.set_comm _ _ hne]
      rw [e]
      exact h2

/-- one step, run -/
theorem stepD_sound (hE : C.E = E) (hO : OpsOK P E cfg lv) {ops : Array Oper} {i : Nat} {o : Oper} {Q : Exit → Act → World → Prop} (ho : ops[i]? = some o) (h : stepD cfg lv ops.toList o st c = some res) (I : InvE C ts w a st) : wpOp P ops Q i (Post C ts c res) a w := by
  obtain ⟨wr, g, I⟩ := I
  have main : ∀ run skip : R, guardK ops.toList o.guard st run skip = some res → (run = some res → ∃ slot, evOp cfg lv slot o st c = some res) → (skip = some res → putD st o.dst (.tup []) c = some res) → wpOp P ops Q i (Post C ts c res) a w := by
    intro run skip hg hr hs
    unfold wpOp
    simp only [ho]
    rcases guard_sound I hg with ⟨hw, h⟩ | ⟨hw, h⟩
    · rw [if_pos hw]
      obtain ⟨slot, h⟩ := hr h
      exact .inl (hO C hE ts o slot st c res a w Q h ⟨wr, g, I⟩)
    · rw [if_neg (by rw [hw]; simp)]
      exact I.skip (hs h)
  unfold stepD at h
  split at h
  · exact main _ _ h (fun hr => ⟨0, valD_ev hr⟩) id
  · exact main _ _ h (fun hr => ⟨_, lenH_inv hr⟩) id

/-! ### a calm region: any order is as good as the text's -/
def evIdx (cfg : Cfg) (lv : Lev) (all : List Oper) : List Nat → St → (St → R) → R
  | [], st, c => c st
  | i :: l, st, c => match all[i]? with
    | some o => stepD cfg lv all o st fun st => evIdx cfg lv all l st c
    | none => none
theorem evList_idx {all : List Oper} : ∀ (n k : Nat), k + n = all.length → ∀ (st : St), evList cfg lv all (all.drop k) st c = evIdx cfg lv all ((List.range n).map (· + k)) st c
  | 0, k, hk, st => by
    rw [List.drop_eq_nil_of_le (by omega), evList_nil]
    rfl
  | n + 1, k, hk, st => by
    have hlt : k < all.length := by omega
    rw [List.drop_eq_getElem_cons hlt, List.range_succ_eq_map]
    simp only [evList_cons, List.map_cons, List.map_map, evIdx, Nat.zero_add, List.getElem?_eq_getElem hlt]
    congr 1
    funext st
    rw [evList_idx n (k + 1) (by omega)]
    congr 1
    apply List.map_congr_left
    intro i _
    simp only [Function.comp_apply]
    omega
theorem stepD_congr {all : List Oper} {o : Oper} {c c' : St → R} (hc : ∀ st, c st = some res → c' st = some res) (hs : safeOp cfg o = true) (h : stepD cfg lv all o st c = some res) : stepD cfg lv all o st c' = some res := by
  rw [stepD_safe hs] at h ⊢
  rcases stepV_lin (cfg := cfg) (lv := lv) (st := st) all o with hX | ⟨V, _, hV⟩
  · rw [hX] at h; cases h
  · rw [hV] at h ⊢
    intro v hv
    have := h v hv
    obtain ⟨b, h1⟩ := putD_inv this
    rw [putD_eq b]
    exact hc _ h1
theorem evIdx_front {all : List Oper} {i : Nat} {o : Oper} {B : List Nat} (ho : all[i]? = some o) : ∀ {A : List Nat} {st : St}, (∀ j ∈ A, ∀ p, all[j]? = some p → safeOp cfg p = true ∧ safeOp cfg o = true ∧ apart all p o = true) →
    evIdx cfg lv all (A ++ i :: B) st c = some res → stepD cfg lv all o st (fun st => evIdx cfg lv all (A ++ B) st c) = some res
  | [], st, _, h => by simpa [evIdx, ho] using h
  | j :: A, st, hA, h => by
    simp only [List.cons_append, evIdx] at h ⊢
    split at h
    · rename_i p hp
      obtain ⟨s1, s2, s3⟩ := hA j (by simp) p hp
      have h1 := stepD_congr (fun st hst => evIdx_front ho (fun j' hj' => hA j' (by simp [hj'])) hst) s1 h
      exact stepD_swap s1 s2 s3 h1
    · cases h

def left (n : Nat) (listed : Array Bool) : List Nat := (List.range n).filter fun i => !listed.getD i true
theorem left_set {n i : Nat} {listed : Array Bool} (hn : listed.size = n) (hi : i < n) : left n (listed.setIfInBounds i true) = (left n listed).filter fun j => decide (j ≠ i) := by
  unfold left
  rw [List.filter_filter]
  apply List.filter_congr
  intro j hj
  have hj : j < n := List.mem_range.1 hj
  by_cases e : j = i
  · subst e
    simp [Array.getD_eq_getD_getElem?, hn, hi]
  · rw [Array.getD_eq_getD_getElem?, Array.getElem?_setIfInBounds_ne (Ne.symm e), ← Array.getD_eq_getD_getElem?]
    simp [e]
theorem left_mem {n i : Nat} {listed : Array Bool} : i ∈ left n listed ↔ i < n ∧ listed.getD i true = false := by
  simp [left]
theorem left_sorted (n : Nat) (listed : Array Bool) : (left n listed).Pairwise (· < ·) := List.Pairwise.filter _ List.pairwise_lt_range
theorem before_listed {ops : Array Oper} {listed : Array Bool} (hcl : ∀ i o, ops[i]? = some o → listed.getD i true = true → ∀ e ∈ o.after.toList, bindsA e = true → listed.getD e.on false = true) :
    ∀ (n i j : Nat), before ops.toList n i j = true → (∀ o, ops[i]? = some o → ∀ e ∈ o.after.toList, bindsA e = true → listed.getD e.on false = true) → listed.getD j false = true
  | 0, i, j, h, _ => by simp [before] at h
  | n + 1, i, j, h, hi => by
    simp only [before] at h
    split at h
    · rename_i o ho
      rw [Array.getElem?_toList] at ho
      obtain ⟨e, he, hb⟩ := List.any_eq_true.1 h
      rw [Bool.and_eq_true, Bool.or_eq_true] at hb
      have hl := hi o ho e he hb.1
      rcases hb.2 with h1 | h1
      · have : e.on = j := by simpa using h1
        rw [← this]; exact hl
      · refine before_listed hcl n e.on j h1 fun o' ho' e' he' hb' => hcl e.on o' ho' ?_ e' he' hb'
        have hlt : e.on < listed.size := by
          rcases Nat.lt_or_ge e.on listed.size with h | h
          · exact h
          · simp [Array.getD_eq_getD_getElem?, Array.getElem?_eq_none h] at hl
        simpa [Array.getD_eq_getD_getElem?, hlt] using hl
    · cases h
theorem getD_listed {listed : Array Bool} {i : Nat} (h : listed.getD i false = true) : listed.getD i true = true := by
  have hlt : i < listed.size := by
    rcases Nat.lt_or_ge i listed.size with h' | h'
    · exact h'
    · simp [Array.getD_eq_getD_getElem?, Array.getElem?_eq_none h'] at h
  simpa [Array.getD_eq_getD_getElem?, hlt] using h
theorem binds_of (md : Region.Mode) {e : Edge} (h : bindsA e = true) : Region.binds md e = true := by
  unfold bindsA at h
  unfold Region.binds
  split <;> simp_all
theorem ready_spec {md : Region.Mode} {ops : Array Oper} {listed : Array Bool} {i : Nat} : i ∈ Region.ready md ops listed ↔ i < ops.size ∧ listed.getD i true = false ∧ ∃ o, ops[i]? = some o ∧ ∀ e ∈ o.after.toList, Region.binds md e = true → listed.getD e.on false = true := by
  unfold Region.ready
  simp only [List.mem_filter, List.mem_range, Bool.and_eq_true, Bool.not_eq_true']
  constructor
  · rintro ⟨h1, h2, h3⟩
    refine ⟨h1, h2, ops[i], Array.getElem?_eq_getElem h1, fun e he hb => ?_⟩
    rw [Array.getElem?_eq_getElem h1] at h3
    simp only [Option.map_some, Option.getD_some] at h3
    have := (Array.all_eq_true_iff_forall_mem.1 h3) e (Array.mem_toList_iff.1 he)
    simpa [hb] using this
  · rintro ⟨h1, h2, o, ho, h3⟩
    refine ⟨h1, h2, ?_⟩
    rw [ho]
    simp only [Option.map_some, Option.getD_some]
    refine Array.all_eq_true_iff_forall_mem.2 fun e he => ?_
    by_cases hb : Region.binds md e = true
    · simp [h3 e (Array.mem_toList_iff.2 he) hb]
    · simp [hb]
theorem edgesIn_spec {g : Edge → Bool} {all : List Oper} {listed : Array Bool} (hn : listed.size = all.length) : ∀ (rest done : List Nat), edgesIn g all done rest = true → (∀ j ∈ done, listed.getD j false = true) → (∃ i ∈ rest, listed.getD i true = false) →
    ∃ i o, all[i]? = some o ∧ listed.getD i true = false ∧ ∀ e ∈ o.after.toList, g e = true → listed.getD e.on false = true
  | [], _, _, _, ⟨i, hi, _⟩ => by cases hi
  | i :: rest, done, h, hd, ⟨i', hi', hl'⟩ => by
    rw [edgesIn, Bool.and_eq_true] at h
    obtain ⟨h1, h2⟩ := h
    split at h1
    · rename_i o ho
      have hlt : i < listed.size := by rw [hn]; exact (List.getElem?_eq_some_iff.1 ho).1
      cases hv : listed.getD i true with
      | false =>
        refine ⟨i, o, ho, hv, fun e he hg => ?_⟩
        have := List.all_eq_true.1 h1 e he
        rw [hg] at this
        exact hd _ (by simpa using this)
      | true =>
        refine edgesIn_spec hn rest (i :: done) h2 (fun j hj => ?_) ?_
        · rcases List.mem_cons.1 hj with rfl | hj
          · simpa [Array.getD_eq_getD_getElem?, hlt] using hv
          · exact hd j hj
        · rcases List.mem_cons.1 hi' with rfl | hm
          · rw [hv] at hl'; cases hl'
          · exact ⟨i', hm, hl'⟩
    · cases h1
/-- what is left is never stuck -/
theorem left_ready {md : Region.Mode} {ops : Array Oper} {listed : Array Bool} (hn : listed.size = ops.size) (hd : edgesDown ops.toList = true) (h : Region.ready md ops listed = []) : left ops.size listed = [] := by
  cases hl : left ops.size listed with
  | nil => rfl
  | cons i L =>
    exfalso
    have hi : i ∈ left ops.size listed := by rw [hl]; simp
    obtain ⟨h1, h2⟩ := left_mem.1 hi
    have hn' : listed.size = ops.toList.length := by simpa using hn
    obtain ⟨hA, hB⟩ := Bool.and_eq_true_iff.1 hd
    obtain ⟨hB, hC⟩ := Bool.and_eq_true_iff.1 hB
    have key : ∃ i o, ops.toList[i]? = some o ∧ listed.getD i true = false ∧ ∀ e ∈ o.after.toList, Region.binds md e = true → listed.getD e.on false = true := by
      by_cases hm : md = .gc
      · subst hm
        have hin : i ∈ gcOrd ops.toList ops.toList.length [] := by
          have := List.all_eq_true.1 hC i (List.mem_range.2 (by simpa using h1))
          simpa using this
        obtain ⟨j, o, ho, hj, he⟩ := edgesIn_spec hn' _ _ hB (fun j hj => by cases hj) ⟨i, hin, h2⟩
        refine ⟨j, o, ho, hj, fun e hem hb => he e hem ?_⟩
        unfold Region.binds at hb
        unfold notText
        split <;> rename_i hg
        · rw [hg] at hb; cases hb
        · rfl
      · obtain ⟨j, o, ho, hj, he⟩ := edgesIn_spec hn' _ _ hA (fun j hj => by cases hj) ⟨i, List.mem_range.2 (by simpa using h1), h2⟩
        refine ⟨j, o, ho, hj, fun e hem hb => he e hem ?_⟩
        unfold Region.binds at hb
        unfold notGc
        split <;> rename_i hg
        · rw [hg] at hb; exact absurd (by simpa using hb) hm
        · rfl
    obtain ⟨j, o, ho, hj, he⟩ := key
    have ho' : ops[j]? = some o := by rw [← ho, Array.getElem?_toList]
    have hr : j ∈ Region.ready md ops listed := ready_spec.2 ⟨(Array.getElem?_eq_some_iff.1 ho').1, hj, o, ho', he⟩
    rw [h] at hr
    cases hr
theorem closed_set {ops : Array Oper} {listed : Array Bool} {i : Nat} (hi : i < listed.size) (hcl : ∀ i o, ops[i]? = some o → listed.getD i true = true → ∀ e ∈ o.after.toList, bindsA e = true → listed.getD e.on false = true)
    (hr : ∀ o, ops[i]? = some o → ∀ e ∈ o.after.toList, bindsA e = true → listed.getD e.on false = true) :
    ∀ j o, ops[j]? = some o → (listed.setIfInBounds i true).getD j true = true → ∀ e ∈ o.after.toList, bindsA e = true → (listed.setIfInBounds i true).getD e.on false = true := by
  have mono : ∀ j, listed.getD j false = true → (listed.setIfInBounds i true).getD j false = true := by
    intro j hj
    by_cases e : j = i
    · subst e; simp [Array.getD_eq_getD_getElem?, hi]
    · rw [Array.getD_eq_getD_getElem?, Array.getElem?_setIfInBounds_ne (Ne.symm e), ← Array.getD_eq_getD_getElem?]; exact hj
  intro j o ho hj e he hb
  by_cases hji : j = i
  · subst hji
    exact mono _ (hr o ho e he hb)
  · rw [Array.getD_eq_getD_getElem?, Array.getElem?_setIfInBounds_ne (Ne.symm hji), ← Array.getD_eq_getD_getElem?] at hj
    exact mono _ (hcl j o ho hj e he hb)
theorem evIdx_any (hE : C.E = E) (hO : OpsOK P E cfg lv) {md : Region.Mode} {ops : Array Oper} (hd : edgesDown ops.toList = true) (hc : calmOps cfg ops.toList = true) {Q : Exit → Act → World → Prop} (hQ : ∀ a w, Post C ts c res a w → Q .normal a w) :
    ∀ (fuel : Nat) (listed : Array Bool) (a : Act) (w : World) (st : St), listed.size = ops.size → (left ops.size listed).length ≤ fuel →
      (∀ i o, ops[i]? = some o → listed.getD i true = true → ∀ e ∈ o.after.toList, bindsA e = true → listed.getD e.on false = true) →
      evIdx cfg lv ops.toList (left ops.size listed) st c = some res → InvE C ts w a st → wpAny P md ops Q fuel listed a w := by
  have done : ∀ (listed : Array Bool) (a : Act) (w : World) (st : St), left ops.size listed = [] → evIdx cfg lv ops.toList (left ops.size listed) st c = some res → InvE C ts w a st → Q .normal a w := by
    intro listed a w st hl h I
    rw [hl] at h
    exact hQ a w ⟨st, h, I⟩
  intro fuel
  induction fuel with
  | zero =>
    intro listed a w st hn hl hcl h I
    have hl : left ops.size listed = [] := List.length_eq_zero_iff.1 (by omega)
    refine ⟨?_, done listed a w st hl h I⟩
    cases hr : Region.ready md ops listed with
    | nil => rfl
    | cons i L =>
      have : i ∈ Region.ready md ops listed := by rw [hr]; simp
      obtain ⟨h1, h2, _⟩ := ready_spec.1 this
      have : i ∈ left ops.size listed := left_mem.2 ⟨h1, h2⟩
      rw [hl] at this
      cases this
  | succ fuel ih =>
    intro listed a w st hn hl hcl h I
    refine ⟨fun hr => done listed a w st (left_ready hn hd hr) h I, fun i hi => ?_⟩
    obtain ⟨h1, h2, o, ho, h3⟩ := ready_spec.1 hi
    have hr : ∀ o, ops[i]? = some o → ∀ e ∈ o.after.toList, bindsA e = true → listed.getD e.on false = true := fun o' ho' e he hb => by
      rw [ho] at ho'
      cases ho'
      exact h3 e he (binds_of md hb)
    have him : i ∈ left ops.size listed := left_mem.2 ⟨h1, h2⟩
    obtain ⟨A, B, hAB⟩ := List.append_of_mem him
    have hs := left_sorted ops.size listed
    rw [hAB] at hs
    have hAi : ∀ j ∈ A, j < i := fun j hj => (List.pairwise_append.1 hs).2.2 j hj i (by simp)
    have hiB : ∀ j ∈ B, i < j := fun j hj => (List.pairwise_cons.1 (List.pairwise_append.1 hs).2.1).1 j hj
    have hol : ops.toList[i]? = some o := by rw [Array.getElem?_toList]; exact ho
    rw [hAB] at h
    have hfront := evIdx_front (B := B) hol (A := A) (fun j hj p hp => by
      have hcalm := List.all_eq_true.1 hc i (List.mem_range.2 (by simpa using h1))
      rw [hol] at hcalm
      have := List.all_eq_true.1 hcalm j (List.mem_range.2 (hAi j hj))
      rw [hp] at this
      rw [Bool.or_eq_true] at this
      rcases this with hb | hb
      · exfalso
        have hlj := getD_listed (before_listed hcl _ i j hb hr)
        have : j ∈ left ops.size listed := by rw [hAB]; simp [hj]
        rw [(left_mem.1 this).2] at hlj
        cases hlj
      · rw [Bool.and_eq_true, Bool.and_eq_true] at hb
        exact ⟨hb.1.1, hb.1.2, hb.2⟩) h
    have hAB' : left ops.size (listed.setIfInBounds i true) = A ++ B := by
      rw [left_set hn h1, hAB, List.filter_append, List.filter_cons]
      simp only [ne_eq, not_true_eq_false, decide_false, Bool.false_eq_true, if_false]
      congr 1
      · apply List.filter_eq_self.2
        intro j hj
        have := hAi j hj
        simp; omega
      · apply List.filter_eq_self.2
        intro j hj
        have := hiB j hj
        simp; omega
    refine wpOp_mono ?_ (stepD_sound hE hO (Q := Q) ho hfront I)
    intro a' w' ⟨st', h4, I'⟩
    refine ih (listed.setIfInBounds i true) a' w' st' (by simpa using hn) ?_ (closed_set (by omega) hcl hr) (by rw [hAB']; exact h4) I'
    rw [hAB']
    rw [hAB] at hl
    simp at hl ⊢
    omega

/-! ### the other regions: every order, state by state -/
theorem boolAt_bset {d : List Bool} {i j : Nat} (hi : i < d.length) : boolAt (bset d i) j = if j = i then true else boolAt d j := by
  induction d generalizing i j with
  | nil => simp at hi
  | cons b d ih => cases i with
    | zero => cases j with
      | zero => simp [bset, boolAt]
      | succ j => simp [bset, boolAt]
    | succ i => cases j with
      | zero => simp [bset, boolAt]
      | succ j => simp only [bset, boolAt]; rw [ih (by simpa using hi)]; simp
theorem bset_len (d : List Bool) (i : Nat) : (bset d i).length = d.length := by
  induction d generalizing i with
  | nil => rfl
  | cons b d ih => cases i <;> simp [bset, ih]
theorem bsetK_eq (d : List Bool) (i : Nat) (k : List Bool → R) : bsetK d i k = k (bset d i) := by
  induction d generalizing i k with
  | nil => rfl
  | cons b d ih => cases i with
    | zero => rfl
    | succ i => exact ih i _
theorem normS_eq (s : List (List AV)) (k : List (List AV) → R) : normS s k = k s := by
  induction s generalizing k with
  | nil => rfl
  | cons e s ih => exact ih _
theorem normSt_eq (st : St) (k : St → R) : normSt st k = k st := normS_eq _ _
theorem falsesK_eq (l : List Oper) (k : List Bool → R) : falsesK l k = k (falses l) := by
  induction l generalizing k with
  | nil => rfl
  | cons o l ih => exact ih _
theorem eqB_eq : ∀ {a b : List Bool}, eqB a b = true → a = b
  | [], [], _ => rfl
  | true :: a, true :: b, h => by rw [eqB_eq (a := a) (b := b) (by simpa [eqB] using h)]
  | false :: a, false :: b, h => by rw [eqB_eq (a := a) (b := b) (by simpa [eqB] using h)]
  | true :: a, false :: b, h => by simp [eqB] at h
  | false :: a, true :: b, h => by simp [eqB] at h
  | [], _ :: _, h => by simp [eqB] at h
  | _ :: _, [], h => by simp [eqB] at h
theorem readyE_of {d : List Bool} : ∀ {l : List Edge}, (∀ e ∈ l, bindsA e = true → boolAt d e.on = true) → readyE d l = true
  | [], _ => rfl
  | e :: l, h => by
    have ih := readyE_of (d := d) (l := l) fun e he => h e (List.mem_cons_of_mem _ he)
    unfold readyE
    split
    · exact ih
    · rename_i hb
      rw [h e (List.mem_cons_self ..) hb]
      exact ih
theorem bndS_inv {x : R} {k : St → R} (h : bndS x k = some res) : ∃ r, x = some r ∧ k (decI r) = some res := by
  unfold bndS at h; exact bnd_inv h
theorem eqS_inv {a b : St} {x : R} (h : eqS a b x = some res) : a = b ∧ x = some res := by
  unfold eqS at h; split at h
  · rename_i e; exact ⟨e, h⟩
  · cases h
theorem addE_inv {d : List Bool} {s : St} : ∀ {acc : Lvl} {k : Lvl → R}, addE d s acc k = some res → ∃ acc', k acc' = some res ∧ (d, s) ∈ acc' ∧ ∀ x ∈ acc, x ∈ acc'
  | [], k, h => ⟨[(d, s)], by rw [addE_nil] at h; exact h, by simp, by simp⟩
  | (d', s') :: acc, k, h => by
    rw [addE_cons] at h
    split at h
    · rename_i hd
      obtain ⟨e, h⟩ := eqS_inv h
      exact ⟨_, h, by rw [eqB_eq hd, e]; simp, fun x hx => hx⟩
    · obtain ⟨acc', h1, h2, h3⟩ := addE_inv h
      exact ⟨_, h1, List.mem_cons_of_mem _ h2, fun x hx => by
        rcases List.mem_cons.1 hx with rfl | hx
        · simp
        · exact List.mem_cons_of_mem _ (h3 x hx)⟩
def stepE (cfg : Cfg) (lv : Lev) (all : List Oper) (slot : Nat) (o : Oper) (st : St) : R := guardK all o.guard st (evOp cfg lv slot o st fun st => some (encI st)) (putD st o.dst (.tup []) fun st => some (encI st))
theorem expOps_inv {all : List Oper} {slot : Nat} {d : List Bool} {s : St} : ∀ {l : List Oper} {i : Nat} {acc : Lvl} {k : Lvl → R}, expOps cfg lv all slot d s i l acc k = some res →
    ∃ acc', k acc' = some res ∧ (∀ x ∈ acc, x ∈ acc') ∧ ∀ j o, l[j]? = some o → boolAt d (i + j) = false → readyE d o.after.toList = true → ∃ r, stepE cfg lv all (slot + (i + j)) o s = some r ∧ (bset d (i + j), decI r) ∈ acc'
  | [], i, acc, k, h => ⟨acc, by rw [expOps_nil] at h; exact h, fun x hx => hx, fun j o ho => by simp at ho⟩
  | o :: l, i, acc, k, h => by
    have next : ∀ {acc acc' : Lvl}, (∀ x ∈ acc, x ∈ acc') → (∀ j o, l[j]? = some o → boolAt d (i + 1 + j) = false → readyE d o.after.toList = true → ∃ r, stepE cfg lv all (slot + (i + 1 + j)) o s = some r ∧ (bset d (i + 1 + j), decI r) ∈ acc') →
        (boolAt d i = false → readyE d o.after.toList = true → ∃ r, stepE cfg lv all (slot + i) o s = some r ∧ (bset d i, decI r) ∈ acc') →
        ∀ j o', (o :: l)[j]? = some o' → boolAt d (i + j) = false → readyE d o'.after.toList = true → ∃ r, stepE cfg lv all (slot + (i + j)) o' s = some r ∧ (bset d (i + j), decI r) ∈ acc' := by
      intro acc acc' _ h2 h3 j o' ho hb hr
      cases j with
      | zero => simp at ho; subst ho; exact h3 hb hr
      | succ j =>
        rw [show i + (j + 1) = i + 1 + j by omega] at hb ⊢
        exact h2 j o' (by simpa using ho) hb hr
    rw [expOps_cons] at h
    split at h
    · rename_i hb
      obtain ⟨acc', h1, h2, h3⟩ := expOps_inv h
      exact ⟨acc', h1, h2, next h2 h3 fun hf => by rw [hb] at hf; cases hf⟩
    · split at h
      · rename_i hr
        obtain ⟨acc', h1, h2, h3⟩ := expOps_inv h
        exact ⟨acc', h1, h2, next h2 h3 fun _ hf => by rw [hr] at hf; cases hf⟩
      · obtain ⟨r, hx, h⟩ := bndS_inv h
        rw [normSt_eq, bsetK_eq] at h
        obtain ⟨acc1, h, hm, hsub⟩ := addE_inv h
        obtain ⟨acc', h1, h2, h3⟩ := expOps_inv h
        exact ⟨acc', h1, fun x hx => h2 x (hsub x hx), next h2 h3 fun _ _ => ⟨r, hx, h2 _ hm⟩⟩
theorem expLvl_inv {all : List Oper} {slot : Nat} : ∀ {l : Lvl} {acc : Lvl} {k : Lvl → R}, expLvl cfg lv all slot l acc k = some res →
    ∃ acc', k acc' = some res ∧ (∀ x ∈ acc, x ∈ acc') ∧ ∀ d s, (d, s) ∈ l → ∀ j o, all[j]? = some o → boolAt d j = false → readyE d o.after.toList = true → ∃ r, stepE cfg lv all (slot + j) o s = some r ∧ (bset d j, decI r) ∈ acc'
  | [], acc, k, h => ⟨acc, by rw [expLvl_nil] at h; exact h, fun x hx => hx, fun d s hd => by cases hd⟩
  | (d, s) :: l, acc, k, h => by
    rw [expLvl_cons] at h
    obtain ⟨acc1, h, h1, h2⟩ := expOps_inv h
    obtain ⟨acc', h, h3, h4⟩ := expLvl_inv h
    refine ⟨acc', h, fun x hx => h3 x (h1 x hx), fun d' s' hm j o ho hb hr => ?_⟩
    rcases List.mem_cons.1 hm with e | hm
    · cases e
      obtain ⟨r, hx, hm⟩ := h2 j o ho (by rw [Nat.zero_add]; exact hb) hr
      rw [Nat.zero_add] at hx hm
      exact ⟨r, hx, h3 _ hm⟩
    · exact h4 d' s' hm j o ho hb hr
theorem evDag_any (hE : C.E = E) (hO : OpsOK P E cfg lv) {md : Region.Mode} {ops : Array Oper} (hd : edgesDown ops.toList = true) {slot : Nat} {Q : Exit → Act → World → Prop} (hQ : ∀ a w, Post C ts c res a w → Q .normal a w) :
    ∀ (fuel : List Oper) (listed : Array Bool) (d : List Bool) (l : Lvl) (a : Act) (w : World) (st : St), listed.size = ops.size → (left ops.size listed).length = fuel.length → d.length = ops.size → (∀ i, i < ops.size → boolAt d i = listed.getD i true) →
      (d, st) ∈ l → evDag cfg lv ops.toList slot fuel l c = some res → InvE C ts w a st → wpAny P md ops Q fuel.length listed a w := by
  intro fuel
  induction fuel with
  | nil =>
    intro listed d l a w st hn hl hdn hdl hm h I
    have hl : left ops.size listed = [] := List.length_eq_zero_iff.1 hl
    have hc : c st = some res := by
      rw [evDag_nil] at h
      split at h
      · simp only [List.mem_cons, List.not_mem_nil, or_false, Prod.mk.injEq] at hm
        rw [hm.2]; exact h
      · cases h
    refine ⟨?_, hQ a w ⟨st, hc, I⟩⟩
    cases hr : Region.ready md ops listed with
    | nil => rfl
    | cons i L =>
      have : i ∈ Region.ready md ops listed := by rw [hr]; simp
      obtain ⟨h1, h2, _⟩ := ready_spec.1 this
      have : i ∈ left ops.size listed := left_mem.2 ⟨h1, h2⟩
      rw [hl] at this
      cases this
  | cons o0 fuel ih =>
    intro listed d l a w st hn hl hdn hdl hm h I
    refine ⟨fun hr => by rw [left_ready hn hd hr] at hl; simp at hl, fun i hi => ?_⟩
    obtain ⟨h1, h2, o, ho, h3⟩ := ready_spec.1 hi
    have hol : ops.toList[i]? = some o := by rw [Array.getElem?_toList]; exact ho
    rw [evDag_cons] at h
    obtain ⟨l', h, _, hall⟩ := expLvl_inv h
    obtain ⟨r, hx, hm'⟩ := hall d st hm i o hol (by rw [hdl i h1]; exact h2) (readyE_of fun e he hb => by
      have hlt := h3 e (by simpa using he) (binds_of md hb)
      have hon : e.on < ops.size := by
        rw [← hn]
        rcases Nat.lt_or_ge e.on listed.size with h | h
        · exact h
        · simp [Array.getD_eq_getD_getElem?, Array.getElem?_eq_none h] at hlt
      rw [hdl e.on hon]; exact getD_listed hlt)
    have hlen : (left ops.size (listed.setIfInBounds i true)).length = fuel.length := by
      rw [left_set hn h1]
      have him : i ∈ left ops.size listed := left_mem.2 ⟨h1, h2⟩
      have hnd : (left ops.size listed).Nodup := (left_sorted _ _).imp (fun h => by omega)
      have : (left ops.size listed).filter (fun j => decide (j ≠ i)) = (left ops.size listed).erase i := by
        rw [hnd.erase_eq_filter]
        apply List.filter_congr
        intro j _
        by_cases e : j = i <;> simp [e]
      rw [this, List.length_erase_of_mem him, hl]
      rfl
    have hdl' : ∀ j, j < ops.size → boolAt (bset d i) j = (listed.setIfInBounds i true).getD j true := by
      intro j hj
      rw [boolAt_bset (by omega)]
      by_cases e : j = i
      · subst e
        simp [Array.getD_eq_getD_getElem?, hn, hj]
      · rw [if_neg e, Array.getD_eq_getD_getElem?, Array.getElem?_setIfInBounds_ne (Ne.symm e), ← Array.getD_eq_getD_getElem?, ← hdl j hj]
    have hnext : ∀ a' w', Post C ts (fun st => some (encI st)) r a' w' → wpAny P md ops Q fuel.length (listed.setIfInBounds i true) a' w' := by
      intro a' w' ⟨st', h4, I'⟩
      have e : decI r = st' := by cases h4; exact dec_enc st'
      rw [e] at hm'
      exact ih (listed.setIfInBounds i true) (bset d i) l' a' w' st' (by simpa using hn) hlen (by rw [bset_len]; exact hdn) hdl' hm' h I'
    obtain ⟨wr, g, I⟩ := I
    refine wpOp_mono hnext ?_
    unfold stepE at hx
    unfold wpOp
    simp only [ho]
    rcases guard_sound I hx with ⟨hw, hx⟩ | ⟨hw, hx⟩
    · rw [if_pos hw]
      exact .inl (hO C hE ts o _ st _ r a w Q hx ⟨wr, g, I⟩)
    · rw [if_neg (by rw [hw]; simp)]
      exact I.skip hx
theorem falses_len (l : List Oper) : (falses l).length = l.length := by induction l with
  | nil => rfl
  | cons o l ih => simp [falses, ih]
theorem falses_at {l : List Oper} {i : Nat} (h : i < l.length) : boolAt (falses l) i = false := by
  induction l generalizing i with
  | nil => simp at h
  | cons o l ih => cases i with
    | zero => rfl
    | succ i => exact ih (by simpa using h)
theorem schedule_any {md : Bool} {ops : Array Oper} {Q : Exit → Act → World → Prop} (h : ∀ m, wpAny P m ops Q ops.size (Array.replicate ops.size false) a w) (t : Nat) : wpOps P ops Q (Region.schedule md ops t) a w := by
  unfold Region.schedule
  split
  · exact wpAny_sound _ _ _ _ _ (h _)
  · exact wpAny_sound _ _ _ _ _ (h _)
theorem left_all (n : Nat) : left n (Array.replicate n false) = List.range n := by
  unfold left
  apply List.filter_eq_self.2
  intro i hi
  have hi := List.mem_range.1 hi
  simp [Array.getD_eq_getD_getElem?, hi]
theorem draws_ok (hO : OpsOK P E cfg lv) {f : FuncId} : ∀ (code : Code), calmCode cfg f code = true → DrawsOK P E (evDraw cfg lv f) code := by
  intro code
  induction code with
  | region id ops d =>
    intro hc hd
    subst hd
    simp only [calmCode, Bool.not_true, Bool.false_or, Bool.and_eq_true] at hc
    intro C hE ts st c res a w Q h I hQ t
    have I' : InvE C ts { w with drawn := w.drawn + 1 } a st := by
      obtain ⟨wr, g, I⟩ := I
      exact ⟨wr, g, Good.heap (w := w) (w' := { w with drawn := w.drawn + 1 }) rfl I.good, ⟨I.fr.os, I.fr.tape, I.fr.output, I.fr.size, I.fr.block, I.fr.cells⟩, I.can, I.dom, I.nodef⟩
    unfold evDraw at h
    refine schedule_any (fun md => ?_) t
    split at h
    · rename_i hcalm
      rw [listK_eq] at h
      have hc2 : calmOps cfg ops.toList = true := by
        have := hc.2
        rw [hcalm] at this
        simpa using this
      have e := evList_idx (cfg := cfg) (lv := lv) (c := c) (all := ops.toList) ops.size 0 (by simp) st
      rw [List.drop_zero] at e
      rw [e] at h
      refine evIdx_any hE hO hc.1 hc2 hQ ops.size _ a _ st (by simp) (by rw [left_all]; simp) (fun i o ho hl => ?_) (by rw [left_all]; simpa using h) I'
      have hi : i < ops.size := (Array.getElem?_eq_some_iff.1 ho).1
      simp [Array.getD_eq_getD_getElem?, hi] at hl
    · have h := lenH_inv h
      rw [falsesK_eq, normSt_eq] at h
      have hany := evDag_any hE hO hc.1 hQ (md := md) ops.toList (Array.replicate ops.size false) (falses ops.toList) _ a _ st (by simp) (by rw [left_all]; simp) (by rw [falses_len]; simp) (fun i hi => by rw [falses_at (by simpa using hi)]; simp [Array.getD_eq_getD_getElem?, hi]) (List.mem_cons_self ..) h I'
      rw [Array.length_toList] at hany
      exact hany
  | seq x y ihx ihy =>
    intro hc
    simp only [calmCode, Bool.and_eq_true] at hc
    exact ⟨ihx hc.1, ihy hc.2⟩
  | cond b x y ihx ihy =>
    intro hc
    simp only [calmCode, Bool.and_eq_true] at hc
    exact ⟨ihx hc.1, ihy hc.2⟩
  | block id b ih => intro hc; exact ih hc
  | loop b ih => intro hc; exact ih hc
  | _ => intro _; trivial
end
end Go.Abs

/- Soundness 52: all operations; all levels; calls on closed values. -/
namespace Go.Abs
section
variable {P : Program} {E : Env} {cfg : Cfg} {lv : Lev} {C : Ctx} {ts : List (List Value)} {w : World} {a : Act} {st : St} {wr : Wrs} {g : Gh} {c : St → R} {res : Res}

theorem ops_ok (hT : TysOK P cfg.ty) (hQ : ∀ t ∈ cfg.eqs, EqOK P t) (hL : LevOK P E cfg lv) : OpsOK P E cfg lv := by
  intro C hE ts o slot st c res a w Q h ⟨wr, g, I⟩
  cases ho : o.op with
  | move x => exact ev_move (.inl ho) h I
  | assign x => exact ev_move (.inr ho) h I
  | pick x y z => exact ev_pick ho h I
  | alloc t => exact ev_alloc hT ho h I
  | box t x => exact ev_box hT ho h I
  | build t ps => exact ev_build hT ho h I
  | buildSlice t n ps => exact ev_buildSlice hT ho h I
  | load t x => exact ev_load hT ho h I
  | store t x y => exact ev_store hT ho h I
  | nilCheck x => exact ev_nilCheck ho h I
  | binOp op t x y t' => exact ev_binOp hT hQ ho h I
  | unOp op t x => exact ev_unOp ho h I
  | convert s d x => exact ev_convert hT ho h I
  | makeFunc fn fs cs => exact ev_makeFunc ho h I
  | makeSlice t x y => exact ev_makeSlice hT ho h I
  | slice t x lo hi mx => exact ev_slice hT ho h I
  | fieldAddr s x f => exact ev_fieldAddr hT ho h I
  | field s x f => exact ev_field hT ho h I
  | indexAddr t x i => exact ev_indexAddr hT ho h I
  | index t x i => exact ev_index hT ho h I
  | extract x i => exact ev_extract ho h I
  | call cl =>
    cases hc : cl.callee with
    | value fo => exact ev_callv hT hL hE ho hc h I
    | invoke r m => simp only [evOp, ho, hc] at h; obtain ⟨vs, h, _⟩ := opnds_sound I.good.env h; cases h
    | builtin b =>
      refine ev_builtin ho hc h I fun vals vs k hb H => ?_
      cases b with
      | len => exact b_len hT hb I H
      | append => exact b_append hT hb I H
      | min => exact b_min hb I H
      | max => exact b_max hb I H
      | _ => simp [builtinOp] at hb
  | _ => simp only [evOp, ho] at h; cases h

/-- what must be so of the tables -/
structure CfgOK (P : Program) (E : Env) (cfg : Cfg) : Prop where
  ty : TysOK P cfg.ty
  eqs : ∀ t ∈ cfg.eqs, EqOK P t
  fns : ∀ y ∈ cfg.fn, P.funcs[y.1]? = some y.2 ∧ (y.2.name == "runtime.NumGoroutine") = false ∧ ∀ b, y.2.body = some b → calmCode cfg y.1 b = true
  ext : ∀ f e, cfg.ext f = some e → ∀ (args : List AV) (res : Res), e args = some res → FnOK P f ∧
    ∀ (w : World) (vals : List Value), E.J w → E.N ≤ w.heap.size → ARs w Any vals args → Calls P f vals.toArray w fun en w' => ∃ v, en = .returned v ∧ Fr w Quiet w' ∧ PRes w w' v res.val

theorem fnK_inv {l : List (FuncId × Func)} {f : FuncId} {k : Func → R} (h : fnK l f k = some res) : ∃ fn, (f, fn) ∈ l ∧ k fn = some res := by
  induction l with
  | nil => simp [fnK] at h
  | cons y l ih =>
    obtain ⟨f', x⟩ := y
    simp only [fnK] at h
    split at h
    · rename_i e; subst e; exact ⟨x, by simp, h⟩
    · obtain ⟨fn, h1, h2⟩ := ih h; exact ⟨fn, by simp [h1], h2⟩
theorem VRs.undefs {h : Heap} : ∀ (n : Nat), VRs w h g (List.replicate n Go.undef) (List.replicate n .undef)
  | 0 => .nil
  | n + 1 => by rw [List.replicate_succ, List.replicate_succ]; exact .cons (.undef _) (VRs.undefs n)
theorem fn_ok (H : CfgOK P E cfg) {f : FuncId} {fn : Func} (hf : (f, fn) ∈ cfg.fn) {lv : Lev} {args : List AV} {stk : List (List AV)} {h : Heap} {k : AV → St → R} (hh : body cfg lv f fn args stk h k = some res) : FnOK P f := by
  obtain ⟨h1, h2, _⟩ := H.fns _ hf
  refine ⟨fn, h1, h2, ?_⟩
  unfold body at hh
  cases hb : fn.body with
  | none => rw [hb] at hh; cases hh
  | some b => rfl
theorem op0_ex {s : Nat} {v : AV} {row : List AV} {k : AV → List AV → R} (hk : op0 s v row k = some res) : ∃ x y, k x y = some res := by
  cases v <;> simp only [op0] at hk <;> first
    | exact ⟨_, _, hk⟩
    | (cases hk; done)
    | exact ⟨_, _, addK_inv hk⟩
theorem opL0_ex {s : Nat} : ∀ {l row : List AV} {k : List AV → List AV → R}, opL0 s l row k = some res → ∃ x y, k x y = some res
  | [], row, k, hk => ⟨_, _, hk⟩
  | v :: l, row, k, hk => by
    obtain ⟨x, y, hk⟩ := op0_ex hk
    obtain ⟨x, y, hk⟩ := opL0_ex hk
    exact ⟨_, _, hk⟩
theorem op1_ex {s : Nat} {v : AV} {row : List AV} {k : AV → List AV → R} (hk : op1 s v row k = some res) : ∃ x y, k x y = some res := by
  by_cases hag : ∃ cs, v = .agg cs
  · obtain ⟨cs, rfl⟩ := hag
    simp only [op1] at hk
    obtain ⟨x, y, hk⟩ := opL0_ex hk
    exact ⟨_, _, hk⟩
  · have h : op0 s v row k = some res := by
      cases v <;> first | exact hk | exact absurd ⟨_, rfl⟩ hag
    exact op0_ex h
theorem opL1_ex {s : Nat} : ∀ {l row : List AV} {k : List AV → List AV → R}, opL1 s l row k = some res → ∃ x y, k x y = some res
  | [], row, k, hk => ⟨_, _, hk⟩
  | v :: l, row, k, hk => by
    obtain ⟨x, y, hk⟩ := op1_ex hk
    obtain ⟨x, y, hk⟩ := opL1_ex hk
    exact ⟨_, _, hk⟩
theorem T0s.get {own : Bool} {K : CS} : ∀ {vs : List Value} {l : List AV} {Ss : List BS} {j : Nat} {a : AV}, T0s w own K vs l Ss → l[j]? = some a → ∃ v S, vs[j]? = some v ∧ Ss[j]? = some S ∧ TR w own K S v a
  | _, _, _, 0, _, .cons h1 _ _, ha => by simp at ha; subst ha; exact ⟨_, _, rfl, rfl, h1⟩
  | _, _, _, j + 1, _, .cons _ _ h2, ha => by
    obtain ⟨v, S, e1, e2, e3⟩ := T0s.get (j := j) h2 (by simpa using ha)
    exact ⟨v, S, by simpa using e1, by simpa using e2, e3⟩
  | _, _, _, 0, _, .nil, ha => by simp at ha
  | _, _, _, j + 1, _, .nil, ha => by simp at ha
theorem Aparts.eq {Ss : List BS} (h : Aparts Ss) {j j' k : Nat} (h1 : fOf Ss j k) (h2 : fOf Ss j' k) : j = j' := by
  obtain ⟨S, hj, hk⟩ := h1
  obtain ⟨S', hj', hk'⟩ := h2
  obtain ⟨hl, e⟩ := List.getElem?_eq_some_iff.1 hj
  obtain ⟨hl', e'⟩ := List.getElem?_eq_some_iff.1 hj'
  rcases Nat.lt_trichotomy j j' with hlt | heq | hgt
  · have := (List.pairwise_iff_getElem.1 h) j j' hl hl' hlt k (by rw [e]; exact hk)
    rw [e'] at this
    exact absurd hk' this
  · exact heq
  · have := (List.pairwise_iff_getElem.1 h) j' j hl' hl hgt k (by rw [e']; exact hk')
    rw [e] at this
    exact absurd hk this
/-- a function that is given a pointer -/
theorem runIo_sound (H : CfgOK P E cfg) (hL : LevOK P E cfg lv) {f : FuncId} {fn : Func} {m : Nat} (hf : (f, fn) ∈ cfg.fn) {args : List AV} (h0 : runIo cfg lv f fn m args = some res) : FnOK P f ∧
  ∀ (va cs vb : List AV), args = va ++ .pv cs :: vb → va.length = m → ∀ (w : World) (b o : Nat) (W : CS) (arr : Array Value) (e : TypeId) (fz : Nat × Nat) (us vala valb : List Value) (Ss Sa Sb : List BS),
    E.J w → E.N ≤ w.heap.size → (∀ b q, W b q → E.N ≤ b) →
    w.heap[b]? = some (.cells arr e fz) → o + cs.length ≤ arr.size → (∀ q u, us[q]? = some u → arr[o + q]? = some u) → (∀ q, o ≤ q → q < o + cs.length → Kw w W b q) →
    T0s w true (Kw w W) us cs Ss → (∀ S ∈ Ss, ∀ k, S k → k < w.heap.size ∧ k ≠ b) → T1s w false Any vala va Sa → T1s w false Any valb vb Sb →
    (∀ S, S ∈ Sa ∨ S ∈ Sb → ∀ k, S k → k < w.heap.size ∧ k ≠ b ∧ ∀ S' ∈ Ss, ¬ S' k) →
    Calls P f (vala ++ .pointer (some ⟨b, o, none⟩) :: valb).toArray w fun en w' => ∃ v us' Ss' arr', en = .returned v ∧ ScalR v res.val ∧ Fr w (IoW b o cs.length Ss W) w' ∧ w'.heap[b]? = some (.cells arr' e fz) ∧
      (∀ q u, us'[q]? = some u → arr'[o + q]? = some u) ∧ T0s w' true (fun b' q => (w.heap.size ≤ b' ∨ W b' q) ∧ w'.frozen? ⟨b', q, none⟩ = false) us' res.out Ss' ∧
      ∀ S ∈ Ss', ∀ k, S k → k ≠ b ∧ k < w'.heap.size ∧ (k < w.heap.size → ∃ S0 ∈ Ss, S0 k) := by
  unfold runIo at h0
  obtain ⟨va, p, vb, e1, e2, h⟩ := splitA_inv h0
  clear h0
  subst e1
  split at h
  case h_2 => cases h
  rename_i cs
  obtain ⟨h1, _, h3⟩ := H.fns _ hf
  have hO := ops_ok H.ty H.eqs hL
  have hok : FnOK P f := by
    obtain ⟨_, _, h⟩ := opL1_ex h
    obtain ⟨_, _, h⟩ := opL1_ex h
    have h := cat_inv h
    exact fn_ok H hf h
  refine ⟨hok, fun va' cs' vb' ea el w b o W arr e fz us vala valb Ss Sa Sb hJ hN hW hb hsz hcell hK T0 hSs Ta Tb hSab => ?_⟩
  obtain ⟨ea1, ea2⟩ := List.append_inj ea (e2.trans el.symm)
  subst ea1
  simp only [List.cons.injEq, AV.pv.injEq] at ea2
  obtain ⟨ec, ev⟩ := ea2
  subst ec ev
  clear ea
  obtain ⟨avs1, rX1, gX1, SX1, h, O1, n1⟩ := opL1_sound h Ta
  obtain ⟨avs2, rX2, gX2, SX2, h, O2, n2⟩ := opL1_sound h Tb
  have h := cat_inv h
  simp only [List.nil_append] at h n1
  have hl1 := O1.trees.len
  have hl2 := O2.trees.len
  have hTR := O1.trees.append O2.trees
  have hSX : ∀ S ∈ SX1 ++ SX2, S ∈ Sa ∨ S ∈ Sb := fun S hS => (List.mem_append.1 hS).imp (fun h => O1.sub.subset h) (fun h => O2.sub.subset h)
  let g : Gh := ⟨fun r => if r = 1 then .slice (some ⟨b, o, none⟩) 1 1 else Go.undef, fun _ => gX1 ++ gX2, fun r k => if r = 1 then (k = b ∨ ∃ S ∈ Ss, S k) else ∃ S ∈ SX1 ++ SX2, S k⟩
  let hp : Heap := [some ⟨true, true, true, 0, [rX1 ++ rX2]⟩, some ⟨false, false, true, cs.length, [cs]⟩]
  let wr : Wrs := ⟨IoW b o cs.length Ss W, Any⟩
  have hget : ∀ r x, hp[r]?.join = some x → (r = 0 ∧ x = ⟨true, true, true, 0, [rX1 ++ rX2]⟩) ∨ (r = 1 ∧ x = ⟨false, false, true, cs.length, [cs]⟩) := by
    intro r x hx
    match r with
    | 0 => simp [hp] at hx; exact .inl ⟨rfl, hx.symm⟩
    | 1 => simp [hp] at hx; exact .inr ⟨rfl, hx.symm⟩
    | r + 2 => simp [hp] at hx
  have hrel : Rel w wr hp g := by
    refine ⟨fun r x hx => ?_, fun r x r' x' k hx hx' hne hro hF hF' => ?_, fun r x k hx hF => ?_⟩
    · rcases hget r x hx with ⟨rfl, rfl⟩ | ⟨rfl, rfl⟩
      · simp only [RootR]
        refine ⟨rX1 ++ rX2, fOf (SX1 ++ SX2), rfl, by simp [g, hl1.1, hl2.1], fun j k ⟨S, hj, hk⟩ => ?_, (fun h => nomatch h), fun j a v ha hv => ?_⟩
        · simp only [g]
          exact ⟨S, List.mem_of_getElem? hj, hk⟩
        · obtain ⟨S, k1, k2⟩ := hTR.get ha hv
          refine k2.mono (fun k hk => ⟨S, k1, hk⟩) (fun b' q hb' _ => ⟨?_, trivial⟩)
          obtain ⟨_, z1, z2⟩ := hSab S (hSX S (List.mem_of_getElem? k1)) b' hb'
          rintro (⟨z3, _⟩ | ⟨_, S', z3, z4⟩)
          · exact z1 z3
          · exact z2 S' z3 z4
      · simp only [RootR]
        refine ⟨b, o, arr, e, fz, fun i j k => i = 0 ∧ fOf Ss j k, by simp [g], hb, by simpa using hsz, fun row hr => by simp at hr; rw [hr], fun q q1 q2 => ?_, by simp [g], fun i j k ⟨_, S, hj, hk⟩ => ?_, fun _ => ⟨fun i j ⟨_, S, hj, hk⟩ => ?_, fun i j i' j' k hk hk' => ?_⟩, fun i j row a hr ha => ?_⟩
        · simp only [List.length_singleton, Nat.one_mul] at q2
          exact ⟨.inl ⟨rfl, q1, q2⟩, (hK q q1 q2).2⟩
        · simp only [g, if_true]
          exact .inr ⟨S, List.mem_of_getElem? hj, hk⟩
        · exact (hSs S (List.mem_of_getElem? hj) b hk).2 rfl
        · exact ⟨hk.1.trans hk'.1.symm, T0.aparts.eq hk.2 hk'.2⟩
        · cases i with
          | succ i => simp at hr
          | zero =>
            simp at hr
            subst hr
            obtain ⟨v, S, k1, k2, k3⟩ := T0.get ha
            unfold CellB
            rw [T0.noX a (List.mem_of_getElem? ha)]
            have e3 : arr.getD (o + 0 * cs.length + j) default = v := by
              rw [Nat.zero_mul, Nat.add_zero]
              exact getD_of (hcell j v k1)
            simp only [e3]
            exact k3.mono (fun k hk => ⟨by trivial, S, k2, hk⟩) (fun b' q hb' hk => ⟨.inr ⟨hk.1, S, List.mem_of_getElem? k2, hb'⟩, hk.2⟩)
    · rcases hget r x hx with ⟨rfl, rfl⟩ | ⟨rfl, rfl⟩
      · cases hro
      · rcases hget r' x' hx' with ⟨rfl, rfl⟩ | ⟨rfl, rfl⟩
        · simp only [g, if_true] at hF
          simp only [g] at hF'
          obtain ⟨S, hS, hk⟩ := hF'
          obtain ⟨_, z1, z2⟩ := hSab S (hSX S hS) k hk
          rcases hF with rfl | ⟨S', hS', hk'⟩
          · exact z1 rfl
          · exact z2 S' hS' hk'
        · exact hne rfl
    · rcases hget r x hx with ⟨rfl, rfl⟩ | ⟨rfl, rfl⟩
      · simp only [g] at hF
        obtain ⟨S, hS, hk⟩ := hF
        exact (hSab S (hSX S hS) k hk).1
      · simp only [g, if_true] at hF
        rcases hF with rfl | ⟨S', hS', hk'⟩
        · exact get_lt hb
        · exact (hSs S' hS' k hk').1
  have hrow : rX1 ++ rX2 ≠ [] → (∃ ro box sz, hp[0]?.join = some ⟨ro, true, box, sz, [rX1 ++ rX2]⟩) ∧ g.G 0 = gX1 ++ gX2 := fun _ => ⟨⟨true, true, 0, rfl⟩, rfl⟩
  have hp1 : VR w hp g (.pointer (some ⟨b, o, none⟩)) (.ptr 1 [] 0 0) := by
    have := VR.ptr (w := w) (h := hp) (g := g) (r := 1) (p := []) (i := 0) (j := 0) (sz := cs.length) (rows := [cs]) (b := b) (o := o) (n := 1) (c := 1) (by
      rw [hwalk_eq (x := ⟨false, false, true, cs.length, [cs]⟩) rfl]
      simp only [walk, g, if_true])
    simpa using this
  have hV : VRs w hp g (vala ++ .pointer (some ⟨b, o, none⟩) :: valb) (avs1 ++ .ptr 1 [] 0 0 :: avs2) := by
    refine VRs.append ?_ (.cons hp1 ?_)
    · have := (n1 [] rfl).more (rX := rX2) (gX := gX2)
      simp only [List.nil_append] at this
      exact Nms.vrs (List.prefix_refl _) (List.prefix_refl _) hrow this
    · exact Nms.vrs (List.prefix_refl _) (List.prefix_refl _) hrow (n2 gX1 (by simp [hl1.1]))
  let C : Ctx := ⟨E, w, IoW b o cs.length Ss W, Any, fun _ _ _ => trivial, hJ, hN, fun b' q h => by
    rcases h with ⟨rfl, h1, h2⟩ | ⟨h1, _⟩
    · exact hW _ _ (hK q h1 h2).1
    · exact hW _ _ h1⟩
  have hbd := body_sound (C := C) (ts := [[.pointer (some ⟨b, o, none⟩)]]) (w := w) (wr := wr) (g := g) H.ty rfl hO h1 (fun b hb => draws_ok hO b (h3 b hb)) h hV.length (fun m => ⟨⟨hrel, by
    simp only [Array.toList_append, Array.toList_replicate]
    exact hV.append (VRs.undefs m), .cons (.cons hp1 .nil) .nil⟩, Fr.refl w _, fun _ _ h _ => h, rfl, rfl⟩)
  refine hbd.mono fun en w' ⟨v, av, a', st', wr', g', he, I, hv, hk⟩ => ?_
  have hstk := I.good.stk
  split at hk
  case h_2 => cases hk
  rename_i r i j hs
  rw [hs] at hstk
  have hptr : VR w' st'.heap g' (.pointer (some ⟨b, o, none⟩)) (.ptr r [] i j) := by
    cases hstk with
    | cons h1 _ => cases h1 with
      | cons h1 _ => exact h1
  obtain ⟨x, hx, hk⟩ := getH_inv hk
  have hx : st'.heap[r]?.join = some x := by rw [hx]; rfl
  obtain ⟨ro, virt, box, sz, rows⟩ := x
  simp only at hk
  split at hk
  case h_2 => cases hk
  obtain ⟨b2, o2, us', cs2, arr', e', fz', hbo, hk, hul, Hus, hb2, _, hcell2, _, _, _⟩ := loadP H.ty I.good.rel hk hptr hx (fun v hv => by
    split at hv
    · exact ⟨_, rfl⟩
    · cases hv)
  simp only [Value.pointer.injEq, Option.some.injEq, Addr.mk.injEq] at hbo
  obtain ⟨rfl, rfl, _⟩ := hbo
  simp only at hk
  obtain ⟨out, Ss0, st2, g2, hk, T2, Tk2⟩ := taL0_sound hk I.good .refl Hus
  have hstk2 := Tk2.good.stk
  split at hk
  case h_2 => cases hk
  rename_i r2 i2 j2 hs2
  rw [hs2] at hstk2
  have hptr2 : VR w' st2.heap g2 (.pointer (some ⟨b, o, none⟩)) (.ptr r2 [] i2 j2) := by
    cases hstk2 with
    | cons h1 _ => cases h1 with
      | cons h1 _ => exact h1
  obtain ⟨x2, hx2, hk⟩ := getH_inv hk
  have hx2 : st2.heap[r2]?.join = some x2 := by rw [hx2]; rfl
  obtain ⟨ro2, virt2, box2, sz2, rows2⟩ := x2
  simp only at hk
  split at hk
  case h_2 => cases hk
  split at hk
  case h_2 => cases hk
  rename_i hscal
  simp only [Option.some.injEq] at hk
  subst hk
  have hFb : g2.F r2 b := by
    have hroot := Tk2.good.rel.root r2 _ hx2
    simp only [RootR] at hroot
    obtain ⟨b1, o1, _, _, _, _, k1, _, _, _, _, k6, _⟩ := hroot
    generalize hpp : (Value.pointer (some ⟨b, o, none⟩)) = pp at hptr2
    cases hptr2 with
    | ptr hw =>
      rw [hwalk_eq hx2] at hw
      simp only [walk, Option.some.injEq, Prod.mk.injEq] at hw
      rw [k1] at hw
      simp only [Value.slice.injEq, Option.some.injEq, Addr.mk.injEq] at hw
      simp only [Value.pointer.injEq, Option.some.injEq, Addr.mk.injEq] at hpp
      rw [hpp.1, ← hw.1.1.1]
      exact k6
  obtain ⟨arr2, hb3, _, _⟩ := I.fr.cells b arr e fz hb
  rw [hb2] at hb3
  cases hb3
  have hcan : ∀ b' q, wr'.can b' q → b' < w.heap.size → IoW b o cs.length Ss W b' q := I.can
  refine ⟨v, us', Ss0.map (trimS w' (Kr w' wr' false)), arr', he, scalV_any hscal hv, I.fr, hb2, hcell2, T2.trim.mono (fun b' q hk => ⟨?_, hk.2⟩), fun S hS k hk => ?_⟩
  · obtain ⟨S0, hS0, rfl⟩ := List.mem_map.1 hS
    obtain ⟨k1, k2, q, k3⟩ := hk
    have hne : k ≠ b := fun e => (Tk2.apart S0 hS0 k k1).2 r2 _ hx2 (e ▸ hFb)
    refine ⟨hne, k2, fun hlt => ?_⟩
    rcases hcan k q k3.1 hlt with ⟨z1, _⟩ | ⟨_, S, z1, z2⟩
    · exact absurd z1 hne
    · exact ⟨S, z1, z2⟩
  · rcases Nat.lt_or_ge b' w.heap.size with hlt | hge
    · rcases hcan b' q hk.1 hlt with ⟨rfl, z1, z2⟩ | ⟨z1, _⟩
      · exact .inr (hK q z1 z2).1
      · exact .inr z1
    · exact .inl hge
theorem lev_ok (H : CfgOK P E cfg) : ∀ n, LevOK P E cfg (lev cfg n)
  | 0 => ⟨fun f args res _ h => by simp [lev] at h, fun f args st k res h => by simp [lev] at h, fun f m args res _ h => by simp [lev] at h⟩
  | n + 1 => by
    have hL := lev_ok H n
    have hO := ops_ok H.ty H.eqs hL
    refine ⟨fun f args res hm h => ?_, fun f args st k res h => ?_, fun f m args res hm h => ?_⟩
    · change runPure cfg (lev cfg n) f args = some res at h
      unfold runPure at h
      rw [hm] at h
      simp only at h
      split at h
      · rename_i e he
        exact H.ext f e he args res h
      · obtain ⟨fn, hf, h⟩ := fnK_inv h
        obtain ⟨h1, _, h3⟩ := H.fns _ hf
        have hok : ∃ avs hp, body cfg (lev cfg n) f fn avs [] hp (fun v st => match cfg.own f with
            | true => ta2 v st fun v _ => some ⟨v, []⟩
            | false => none) = some res := by
          unfold openArgs at h
          have : ∀ (l row : List AV) (hp : Heap) (k : List AV → List AV → Heap → R), oa true l row hp k = some res → ∃ x y z, k x y z = some res := by
            have hop0 : ∀ (s : Nat) (v : AV) (row : List AV) (k : AV → List AV → R), op0 s v row k = some res → ∃ x y, k x y = some res := by
              intro s v row k hk
              cases v <;> simp only [op0] at hk <;> first
                | exact ⟨_, _, hk⟩
                | (cases hk; done)
                | exact ⟨_, _, addK_inv hk⟩
            have hopL : ∀ (s : Nat) (l row : List AV) (k : List AV → List AV → R), opL0 s l row k = some res → ∃ x y, k x y = some res := by
              intro s l
              induction l with
              | nil => exact fun row k hk => ⟨_, _, hk⟩
              | cons v l ih => intro row k hk; obtain ⟨x, y, hk⟩ := hop0 _ _ _ _ hk; exact ih _ _ hk |>.elim fun x h => h.elim fun y h => ⟨_, y, h⟩
            have hoaC : ∀ (l row : List AV) (hp : Heap) (k : List AV → List AV → Heap → R), oaC true l row hp k = some res → ∃ x y z, k x y z = some res := by
              intro l
              induction l with
              | nil => exact fun row hp k hk => ⟨_, _, _, hk⟩
              | cons v l ih =>
                intro row hp k hk
                cases v <;> simp only [oaC] at hk
                case pv cs => have hk := pushR_inv hk; obtain ⟨x, y, z, hk⟩ := ih _ _ _ hk; exact ⟨_, _, _, hk⟩
                case agg cs => obtain ⟨x, y, hk⟩ := hopL _ _ _ _ hk; obtain ⟨x, y, z, hk⟩ := ih _ _ _ hk; exact ⟨_, _, _, hk⟩
                all_goals (obtain ⟨x, y, hk⟩ := hop0 _ _ _ _ hk; obtain ⟨x, y, z, hk⟩ := ih _ _ _ hk; exact ⟨_, _, _, hk⟩)
            intro l
            induction l with
            | nil => exact fun row hp k hk => ⟨_, _, _, hk⟩
            | cons v l ih =>
              intro row hp k hk
              cases v <;> simp only [oa] at hk
              case pv cs => have hk := pushR_inv hk; obtain ⟨x, y, z, hk⟩ := ih _ _ _ hk; exact ⟨_, _, _, hk⟩
              case agg cs => obtain ⟨x, y, hk⟩ := hopL _ _ _ _ hk; obtain ⟨x, y, z, hk⟩ := ih _ _ _ hk; exact ⟨_, _, _, hk⟩
              case fn f cs => obtain ⟨x, y, z, hk⟩ := hoaC _ _ _ _ hk; obtain ⟨x, y, z, hk⟩ := ih _ _ _ hk; exact ⟨_, _, _, hk⟩
              all_goals (obtain ⟨x, y, hk⟩ := hop0 _ _ _ _ hk; obtain ⟨x, y, z, hk⟩ := ih _ _ _ hk; exact ⟨_, _, _, hk⟩)
          obtain ⟨x, y, z, h⟩ := this _ _ _ _ h
          exact ⟨_, _, setH_inv h⟩
        obtain ⟨_, _, hok⟩ := hok
        refine ⟨fn_ok H hf hok, fun w vals hJ hN HA => ?_⟩
        obtain ⟨avs, hp, g, h, hR, hV⟩ := openArgs_sound h HA
        let C : Ctx := ⟨E, w, Quiet, Any, fun _ _ _ => trivial, hJ, hN, fun _ _ h => h.elim⟩
        have hb := body_sound (C := C) (ts := []) (w := w) (wr := ⟨Quiet, Any⟩) (g := g) H.ty rfl hO h1 (fun b hb => draws_ok hO b (h3 b hb)) h hV.length (fun m => ⟨⟨hR, by
          simp only [Array.toList_append, Array.toList_replicate]
          exact hV.append (VRs.undefs m), .nil⟩, Fr.refl w Quiet, fun _ _ h _ => h.elim, rfl, rfl⟩)
        refine hb.mono fun en w' ⟨v, av, a', st', wr', g', he, I, hv, hk⟩ => ⟨v, he, I.fr, ?_⟩
        split at hk
        · obtain ⟨x, st'', hk, hr⟩ := I.answer (fun _ _ h => h) hk hv
          simp only [Option.some.injEq] at hk
          subst hk
          exact hr
        · cases hk
    · change runInl cfg (lev cfg n) f args st k = some res at h
      unfold runInl at h
      obtain ⟨fn, hf, h⟩ := fnK_inv h
      obtain ⟨h1, _, h3⟩ := H.fns _ hf
      refine ⟨fn_ok H hf h, fun C ts w a wr g vals hE I hv => ?_⟩
      have hb := body_sound (C := C) (ts := a.tmps.toList :: ts) (w := w) (wr := wr) (g := g) H.ty hE hO h1 (fun b hb => draws_ok hO b (h3 b hb)) h hv.length (fun m => ⟨⟨I.good.rel, by
          simp only [Array.toList_append, Array.toList_replicate]
          exact hv.append (VRs.undefs m), .cons I.good.env I.good.stk⟩, I.fr, I.can, I.dom, rfl⟩)
      refine hb.mono fun en w' ⟨v, av, a', st', wr', g', he, I', hv', hk⟩ => ?_
      have hst := I'.good.stk
      split at hk
      · rename_i e s hs
        rw [hs] at hst
        cases hst with
        | cons k1 k2 => exact ⟨v, av, ⟨e, s, st'.heap⟩, wr', g', he, ⟨⟨I'.good.rel, k1, k2⟩, I'.fr, I'.can, I'.dom, I.nodef⟩, hv', hk⟩
      · cases hk
    · change runPure cfg (lev cfg n) f args = some res at h
      unfold runPure at h
      rw [hm] at h
      simp only at h
      obtain ⟨fn, hf, h⟩ := fnK_inv h
      exact runIo_sound H hL hf h
/-- What the machine answers, the program answers. -/
theorem callP_sound (H : CfgOK P E cfg) {n : Nat} {f : FuncId} {args : List AV} (hm : cfg.mode f = 0) (h : callP cfg n f args = some res) {vals : List Value} (hJ : E.J w) (hN : E.N ≤ w.heap.size) (HA : ARs w Any vals args) :
    Calls P f vals.toArray w fun e w' => ∃ v, e = .returned v ∧ Fr w Quiet w' ∧ PRes w w' v res.val := by
  unfold callP at h
  exact ((lev_ok H n).pure f args res hm h).2 w vals hJ hN HA
end
end Go.Abs

/- Soundness 53: the tables, checked. -/
namespace Go.Abs

theorem TyOK.of {P : Program} {t : TypeId} {x : TInfo} {d : TypeDesc} {cells : List Value} (hu : P.underlying t = some d) (hs : ShOK x.shape d)
    (hi : (P.info? t).map (fun i => (i.size, i.bytes, i.zero.map fun z => z.cells.toList)) = some (x.size, x.bytes, some cells)) (hz : cells.map some = x.zero.map zv) (hl : x.zero.length = x.size)
    (h1 : (match x.shape with | .struct _ => true | _ => decide (x.size = 1)) = true) (hf : (match x.shape with | .struct fs => fs.all fun p => (P.info? p.2).isSome | _ => true) = true) (hp : 0 < x.size) : TyOK P t x := by
  refine ⟨⟨d, hu, hs⟩, ?_, hl, fun hn => ?_, fun fs hfs p hpm => ?_, hp⟩
  · cases hq : P.info? t with
    | none => rw [hq] at hi; cases hi
    | some i =>
      rw [hq] at hi
      simp only [Option.map_some, Option.some.injEq, Prod.mk.injEq] at hi
      obtain ⟨e1, e2, e3⟩ := hi
      cases hz' : i.zero with
      | none => rw [hz'] at e3; cases e3
      | some z =>
        rw [hz'] at e3
        simp only [Option.map_some, Option.some.injEq] at e3
        exact ⟨i, z, rfl, e1, e2, hz', by rw [e3]; exact hz⟩
  · split at h1
    · rename_i fs hfs; exact absurd hfs (hn fs)
    · simpa using h1
  · rw [hfs] at hf
    exact List.all_eq_true.1 hf p hpm
def fnChk (cfg : Cfg) (y : FuncId × Func) : Bool := !(y.2.name == "runtime.NumGoroutine") && (match y.2.body with | some b => calmCode cfg y.1 b | none => true)
theorem fns_ok {P : Program} {cfg : Cfg} {l : List (FuncId × Func)} (h1 : ∀ y ∈ l, P.funcs[y.1]? = some y.2) (h2 : l.all (fnChk cfg) = true) :
    ∀ y ∈ l, P.funcs[y.1]? = some y.2 ∧ (y.2.name == "runtime.NumGoroutine") = false ∧ ∀ b, y.2.body = some b → calmCode cfg y.1 b = true := by
  intro y hy
  have := List.all_eq_true.1 h2 y hy
  unfold fnChk at this
  rw [Bool.and_eq_true, Bool.not_eq_true'] at this
  refine ⟨h1 y hy, this.1, fun b hb => ?_⟩
  have h := this.2
  rw [hb] at h
  exact h
theorem callP_def (cfg : Cfg) (n : Nat) (f : FuncId) (args : List AV) : (lev cfg n).pure f args = callP cfg n f args := by unfold callP; rfl
def memP : List (Nat × Nat) → Nat → Nat → Bool
  | [], _, _ => false
  | (a, b) :: l, x, y => if a = x then (if b = y then true else memP l x y) else memP l x y
def memN : List Nat → Nat → Bool
  | [], _ => false
  | a :: l, x => if a = x then true else memN l x

/-- nothing is asked of the world -/
def envAny : Env := ⟨fun _ => True, 0, fun _ _ _ _ _ _ _ => trivial⟩

/-! ### arguments -/
theorem AR.int {w : World} {k : IntKind} {n : Int} : AR w Any (.int k n) (.int k n) := .pv (.leaf (TR.int k n))
theorem AR.str {w : World} {s : ByteArray} : AR w Any (.string s) (.str s) := .pv (.leaf (TR.str s))
theorem AR.bool {w : World} {b : Bool} : AR w Any (.bool b) (.bool b) := .pv (.leaf (TR.bool b))
end Go.Abs

/- Soundness 54: the arguments of a statement are trees. -/
namespace Go.Abs
open Go.Deep

def look : List (TypeId × TInfo) → TypeId → Option TInfo
  | [], _ => none
  | (t', x) :: l, t => if t' = t then some x else look l t
theorem look_mem {l : List (TypeId × TInfo)} {t : TypeId} {x : TInfo} (h : look l t = some x) : (t, x) ∈ l := by
  induction l with
  | nil => cases h
  | cons a l ih =>
    obtain ⟨t', y⟩ := a
    simp only [look] at h
    split at h
    · rename_i e; subst e; cases h; simp
    · simp [ih h]
def szOf (l : List (TypeId × TInfo)) (t : TypeId) : Nat := match look l t with
  | some x => x.size
  | none => 0
def TyF (T : TypeId → List AV → Prop) : List (Nat × TypeId) → List AV → Prop
  | [], avs => avs = []
  | p :: fs, avs => ∃ a b, avs = a ++ b ∧ T p.2 a ∧ TyF T fs b
/-- cells that a value of a type may have -/
def Ty (l : List (TypeId × TInfo)) : Nat → TypeId → List AV → Prop
  | 0, _, _ => False
  | n + 1, t, avs => match look l t with
    | none => False
    | some x => match x.shape with
      | .bool => ∃ b, avs = [.bool b]
      | .int k => ∃ i, avs = [.int k i] ∧ k.min ≤ i ∧ i ≤ k.max
      | .str => ∃ s, avs = [.str s] ∧ s.size ≤ maxLen
      | .slice e => ∃ rows : Rows, avs = [.lst (szOf l e) rows] ∧ rows.length ≤ maxLen ∧ ∀ row ∈ rows, Ty l n e row
      | .struct fs => TyF (Ty l n) fs avs
      | _ => False
def contig (l : List (TypeId × TInfo)) : Nat → List (Nat × TypeId) → Nat → Bool
  | off, [], total => off == total
  | off, (o, t) :: fs, total => o == off && contig l (off + szOf l t) fs total
def good (l : List (TypeId × TInfo)) : Nat → TypeId → Bool
  | 0, _ => false
  | n + 1, t => match look l t with
    | none => false
    | some x => match x.shape with
      | .bool | .int _ | .str => true
      | .slice e => good l n e
      | .struct fs => contig l 0 fs x.size && fs.all fun p => good l n p.2
      | _ => false
theorem mapM_some {α β : Type} {f : α → Option β} : ∀ {l : List α} {r : List β}, l.mapM f = some r → r.length = l.length ∧ ∀ (i : Nat) (x : α), l[i]? = some x → f x = r[i]?
  | [], r, h => by
    simp at h
    subst h
    exact ⟨rfl, fun i x hx => by simp at hx⟩
  | a :: l, r, h => by
    rw [List.mapM_cons] at h
    cases hf : f a with
    | none => rw [hf] at h; cases h
    | some b =>
      rw [hf] at h
      cases hm : l.mapM f with
      | none => rw [hm] at h; cases h
      | some r' =>
        rw [hm] at h
        cases h
        obtain ⟨h1, h2⟩ := mapM_some hm
        refine ⟨by simp [h1], fun i x hx => ?_⟩
        cases i with
        | zero => simp at hx; subst hx; simpa using hf
        | succ i => simpa using h2 i x (by simpa using hx)
theorem cells_some {w : World} {base : Nat} {ad : Addr} {n : Nat} {cs : List Value} (h : w.cells? base ad n = some cs) : cs.length = n ∧ ∀ i v, cs[i]? = some v → w.cell? (ad.add i) = some v := by
  unfold World.cells? at h
  split at h
  · obtain ⟨h1, h2⟩ := mapM_some h
    simp only [List.length_range] at h1
    refine ⟨h1, fun i v hv => ?_⟩
    have hi : i < n := by rw [← h1]; exact (List.getElem?_eq_some_iff.1 hv).1
    rw [h2 i i (by simp [hi]), hv]
  · cases h
theorem Leaves.split {w : World} {K : CS} : ∀ {vs : List Value} {l : List AV} (n : Nat), Leaves w K (vs.take n) l → ∀ {m : List AV}, Leaves w K (vs.drop n) m → Leaves w K vs (l ++ m)
  | [], _, n, h1, m, h2 => by
    simp only [List.take_nil] at h1
    simp only [List.drop_nil] at h2
    cases h1
    exact h2
  | v :: vs, l, 0, h1, m, h2 => by
    simp only [List.take_zero] at h1
    cases h1
    exact h2
  | v :: vs, l, n + 1, h1, m, h2 => by
    simp only [List.take_succ_cons] at h1
    simp only [List.drop_succ_cons] at h2
    cases h1 with
    | cons a b => exact .cons a (Leaves.split n b h2)
theorem Leaves.of {w : World} {K : CS} : ∀ {vs : List Value} {l : List AV}, vs.length = l.length → (∀ (j : Nat) (v : Value) (a : AV), vs[j]? = some v → l[j]? = some a → Leaf w K v a) → Leaves w K vs l
  | [], [], _, _ => .nil
  | [], _ :: _, h, _ => by simp at h
  | _ :: _, [], h, _ => by simp at h
  | v :: vs, a :: l, h, hj => .cons (hj 0 v a rfl rfl) (Leaves.of (by simpa using h) fun j v' a' h1 h2 => hj (j + 1) v' a' (by simpa using h1) (by simpa using h2))

section
variable {H : Type} {enc : TypeId × Value → H} {P : Program} {w : World} {base : Nat} {held : Bool} {l : List (TypeId × TInfo)}
theorem cellsOf_of (hT : TysOK P l) {t : TypeId} {x : TInfo} (h : look l t = some x) : P.cellsOf t = x.size := by
  obtain ⟨_, ⟨i, z, h1, h2, _⟩, _⟩ := hT _ (look_mem h)
  simp only at h1 h2
  simp [Program.cellsOf, h1, h2]
theorem trod_ty (hT : TysOK P l) : ∀ (n : Nat) (t : TypeId) (x : TInfo) (fuel : Nat) (cs : List Value) (d : DataW H × List MemPlace), good l n t = true → look l t = some x → DataW.trod enc P w base (fun _ => true) held fuel t cs = some d →
    ∃ avs, Ty l n t avs ∧ Leaves w Any cs avs ∧ avs.length = x.size := by
  intro n
  induction n with
  | zero => intro t x fuel cs d hg; simp [good] at hg
  | succ n ih =>
    intro t x fuel cs d hg hx h
    have hok := hT _ (look_mem hx)
    obtain ⟨⟨ds, hu, hsh⟩, _, _, hone, _, hpos⟩ := hok
    simp only at hu hsh hone hpos
    cases fuel with
    | zero => simp [DataW.trod] at h
    | succ fuel =>
    simp only [good, hx] at hg
    simp only [Ty, hx]
    have one : (∀ fs, x.shape ≠ .struct fs) → x.size = 1 := hone
    cases hs : x.shape with
    | bool =>
      rw [hs] at hsh
      simp only [ShOK] at hsh
      subst hsh
      have : ∃ b, cs = [.bool b] := by
        cases cs with
        | nil => simp [DataW.trod, hu] at h
        | cons v tl => cases tl with
          | nil => cases v <;> first | exact ⟨_, rfl⟩ | (simp [DataW.trod, hu] at h; done)
          | cons => simp [DataW.trod, hu] at h
      obtain ⟨b, rfl⟩ := this
      exact ⟨_, ⟨_, rfl⟩, .cons (TR.bool _) .nil, (by rw [one (by simp [hs])]; rfl)⟩
    | int k =>
      rw [hs] at hsh
      simp only [ShOK] at hsh
      subst hsh
      have : ∃ k' i, cs = [.int k' i] := by
        cases cs with
        | nil => simp [DataW.trod, hu] at h
        | cons v tl => cases tl with
          | nil => cases v <;> first | exact ⟨_, _, rfl⟩ | (simp [DataW.trod, hu] at h; done)
          | cons => simp [DataW.trod, hu] at h
      obtain ⟨k', i, rfl⟩ := this
      simp only [DataW.trod, hu] at h
      split at h
      · rename_i hk
        obtain ⟨rfl, hwf⟩ := hk
        simp only [Lit.wf, Bool.and_eq_true, decide_eq_true_eq] at hwf
        exact ⟨_, ⟨_, rfl, hwf.1, hwf.2⟩, .cons (TR.int _ _) .nil, (by rw [one (by simp [hs])]; rfl)⟩
      · cases h
    | str =>
      rw [hs] at hsh
      simp only [ShOK] at hsh
      subst hsh
      have : ∃ s, cs = [.string s] := by
        cases cs with
        | nil => simp [DataW.trod, hu] at h
        | cons v tl => cases tl with
          | nil => cases v <;> first | exact ⟨_, rfl⟩ | (simp [DataW.trod, hu] at h; done)
          | cons => simp [DataW.trod, hu] at h
      obtain ⟨s, rfl⟩ := this
      simp only [DataW.trod, hu] at h
      split at h
      · rename_i hk
        exact ⟨_, ⟨_, rfl, hk⟩, .cons (TR.str _) .nil, (by rw [one (by simp [hs])]; rfl)⟩
      · cases h
    | slice e =>
      rw [hs] at hsh
      simp only [ShOK] at hsh
      subst hsh
      simp only [hs] at hg
      have hsz := one (by simp [hs])
      cases hy : look l e with
      | none => cases n <;> simp [good, hy] at hg
      | some y =>
        have hcell := cellsOf_of hT hy
        have hypos := (hT _ (look_mem hy)).pos
        simp only at hypos
        have hszo : szOf l e = y.size := by simp [szOf, hy]
        rcases open_slice hu h with ⟨rfl, _⟩ | ⟨ad, len, cap, m, fu, D, Pl, rfl, hb, hlc, hcm, hm, _, hel⟩
        · exact ⟨[.lst (szOf l e) []], ⟨[], rfl, Nat.zero_le _, fun row hr => by simp at hr⟩, .cons TR.nil .nil, by simp [hsz]⟩
        · simp only [if_true] at hm
          subst hm
          have each : ∀ i, i < m → ∃ row, Ty l n e row ∧ row.length = y.size ∧ (∀ j a, row[j]? = some a → ∃ v, w.cell? (ad.add (i * y.size + j)) = some v ∧ Leaf w Any v a) := by
            intro i hi
            obtain ⟨cs', hc1, hc2⟩ := hel i hi
            rw [hcell] at hc1
            obtain ⟨hc3, hc4⟩ := cells_some hc1
            obtain ⟨row, h1, h2, h3⟩ := ih e y fu cs' _ hg hy hc2
            refine ⟨row, h1, h3, fun j a ha => ?_⟩
            obtain ⟨v, hv, hlf⟩ := h2.get ha
            have := hc4 j v hv
            rw [add_add] at this
            exact ⟨v, this, hlf⟩
          obtain ⟨f, hf⟩ := choose_lt (n := m) each
          have hrows : ((List.range len).map f).length = len := by simp
          refine ⟨[.lst (szOf l e) ((List.range len).map f)], ⟨_, rfl, by rw [hrows]; omega, fun row hr => ?_⟩, .cons ?_ .nil, by simp [hsz]⟩
          · obtain ⟨i, hi, rfl⟩ := List.mem_map.1 hr
            exact (hf i (by have := List.mem_range.1 hi; omega)).1
          · rw [hszo]
            by_cases hm0 : m = 0
            · subst hm0
              obtain rfl : len = 0 := by omega
              exact TR.nil
            · obtain ⟨_, hl0, hc0⟩ := hf 0 (by omega)
              have h00 : (f 0)[0]? = some (f 0)[0] := List.getElem?_eq_getElem (by omega)
              obtain ⟨v0, hv0, _⟩ := hc0 0 _ h00
              have hspot : ad.spot = none := by
                have : ad.add (0 * y.size + 0) = ad := by simp [Addr.add]
                rw [this] at hv0
                simp only [World.cell?] at hv0
                split at hv0
                · split at hv0
                  · cases hv0
                  · rename_i hsp; simpa using hsp
                · cases hv0
              obtain ⟨b, o, sp⟩ := ad
              simp only at hspot
              subst hspot
              simp only [Addr.add_eq] at hf hv0
              obtain ⟨arr, te, fz, hbk, _⟩ := cell_heap hv0
              obtain ⟨_, hl1, hc1⟩ := hf (m - 1) (by omega)
              have h11 : (f (m - 1))[y.size - 1]? = some (f (m - 1))[y.size - 1] := List.getElem?_eq_getElem (by omega)
              obtain ⟨v1, hv1, _⟩ := hc1 _ _ h11
              rw [cell_of hbk] at hv1
              have hlt := (Array.getElem?_eq_some_iff.1 hv1).1
              have hbound : o + m * y.size ≤ arr.size := by
                have : (m - 1) * y.size + y.size = m * y.size := by rw [← Nat.succ_mul]; congr 1; omega
                omega
              have hmain := TR.lst (w := w) (own := false) (K := Any) (S := fun k => k < w.heap.size) (b := b) (o := o) (c := m) (cs := arr) (e := te) (fz := fz) (sz := y.size) (rows := (List.range len).map f) (fun _ _ k => k < w.heap.size)
                hbk hbound (by rw [hrows]; exact hlc) (fun row hr => by
                  obtain ⟨i, hi, rfl⟩ := List.mem_map.1 hr
                  exact (hf i (by have := List.mem_range.1 hi; omega)).2.1) ⟨Nat.mul_pos (by omega) hypos, fun _ _ _ => trivial⟩ (get_lt hbk) (fun _ _ _ h => h) (fun h => by cases h) (fun i j row a hr ha => by
                  rw [List.getElem?_map, Option.map_eq_some_iff] at hr
                  obtain ⟨i', hi', rfl⟩ := hr
                  have hil : i < len := by
                    have := (List.getElem?_eq_some_iff.1 hi').1
                    simpa using this
                  have : i' = i := by
                    rw [List.getElem?_range hil] at hi'
                    simpa using hi'.symm
                  subst this
                  obtain ⟨v, hv, hlf⟩ := (hf i' (by omega)).2.2 j a ha
                  rw [cell_of hbk, ← Nat.add_assoc] at hv
                  rw [getD_of hv]
                  exact hlf)
              rw [hrows] at hmain
              exact hmain
    | struct fs =>
      rw [hs] at hsh
      obtain ⟨fa, rfl, hfa⟩ := hsh
      simp only [hs, Bool.and_eq_true] at hg
      have h' : cs.length = P.cellsOf t ∧ ∃ xs, (fa.toList.mapM fun f => DataW.trod enc P w base (fun _ => true) held fuel f.type ((cs.drop f.offset).take (P.cellsOf f.type))) = some xs := by
        have e1 : DataW.trod enc P w base (fun _ => true) held (fuel + 1) t cs = (if cs.length = P.cellsOf t then (fa.toList.mapM fun f => DataW.trod enc P w base (fun _ => true) held fuel f.type ((cs.drop f.offset).take (P.cellsOf f.type))).map fun xs => (.agg (xs.map (·.1)), xs.flatMap (·.2)) else none) := by
          rw [DataW.trod]
          simp only [hu]
        rw [e1] at h
        split at h
        · rename_i hl
          refine ⟨hl, ?_⟩
          cases hm : (fa.toList.mapM fun f => DataW.trod enc P w base (fun _ => true) held fuel f.type ((cs.drop f.offset).take (P.cellsOf f.type))) with
          | none => rw [hm] at h; cases h
          | some xs => exact ⟨xs, rfl⟩
        · cases h
      obtain ⟨hl, xs, hxs⟩ := h'
      rw [cellsOf_of hT hx] at hl
      have each : ∀ p ∈ fs, ∃ d', DataW.trod enc P w base (fun _ => true) held fuel p.2 ((cs.drop p.1).take (P.cellsOf p.2)) = some d' := by
        intro p hp
        rw [← hfa] at hp
        obtain ⟨f, hf, rfl⟩ := List.mem_map.1 hp
        obtain ⟨i, hi⟩ := List.mem_iff_getElem?.1 hf
        obtain ⟨k1, k2⟩ := mapM_some hxs
        have hk := k2 i f hi
        have hil : i < xs.length := by rw [k1]; exact (List.getElem?_eq_some_iff.1 hi).1
        rw [List.getElem?_eq_getElem hil] at hk
        exact ⟨_, hk⟩
      have go : ∀ (fs' : List (Nat × TypeId)) (off : Nat), (∀ p ∈ fs', p ∈ fs) → contig l off fs' x.size = true → fs'.all (fun p => good l n p.2) = true → ∃ avs, TyF (Ty l n) fs' avs ∧ Leaves w Any (cs.drop off) avs := by
        intro fs'
        induction fs' with
        | nil =>
          intro off _ hc _
          simp only [contig, beq_iff_eq] at hc
          refine ⟨[], rfl, ?_⟩
          rw [List.drop_eq_nil_of_le (by omega)]
          exact .nil
        | cons p fs' ihf =>
          intro off hsub hc hgd
          obtain ⟨o, t'⟩ := p
          simp only [contig, Bool.and_eq_true, beq_iff_eq] at hc
          obtain ⟨rfl, hc⟩ := hc
          simp only [List.all_cons, Bool.and_eq_true] at hgd
          obtain ⟨b, hb1, hb2⟩ := ihf (o + szOf l t') (fun p hp => hsub p (by simp [hp])) hc hgd.2
          obtain ⟨d', hd'⟩ := each (o, t') (hsub _ (by simp))
          simp only at hd'
          cases hy : look l t' with
          | none =>
            have := hgd.1
            cases n <;> simp [good, hy] at this
          | some y =>
            obtain ⟨a, ha1, ha2, ha3⟩ := ih t' y fuel _ d' hgd.1 hy hd'
            have hszo : szOf l t' = y.size := by simp [szOf, hy]
            rw [cellsOf_of hT hy] at ha2
            rw [hszo, ← List.drop_drop] at hb2
            exact ⟨a ++ b, ⟨a, b, rfl, ha1, hb1⟩, Leaves.split y.size ha2 hb2⟩
      obtain ⟨avs, h1, h2⟩ := go fs 0 (fun _ h => h) hg.1 hg.2
      rw [List.drop_zero] at h2
      exact ⟨avs, h1, h2, by rw [← h2.length, hl]⟩
    | ptr e => simp [hs] at hg
    | func => simp [hs] at hg
    | other => simp [hs] at hg
end
end Go.Abs

/- Soundness 55: a statement that answers true. -/
namespace Go.Abs
open Go.ChangeShapes Go.WideShapes Go.RowKit

def un1 (avs : List AV) : AV := match avs with
  | [a] => a
  | _ => .undef
def argA (x : TInfo) (avs : List AV) : AV := match x.shape with
  | .struct _ => .agg avs
  | _ => un1 avs
inductive TyArgs (l : List (TypeId × TInfo)) : List TypeId → List AV → Prop
  | nil : TyArgs l [] []
  | cons {t : TypeId} {x : TInfo} {avs : List AV} {ts : List TypeId} {as : List AV} (hx : look l t = some x) (h1 : Ty l 9 t avs) (h2 : TyArgs l ts as) : TyArgs l (t :: ts) (argA x avs :: as)
theorem Fr.below {w w' : World} (F : Fr w Quiet w') : Go.RowKit.Below w.heap.size w w' := ⟨F.os, F.tape, F.output, F.size, fun k hk => F.block k hk (fun _ h => h)⟩
section
variable {H : Type} {enc : TypeId × Value → H} {P : Program} {cfg : Cfg} {W : World} {base : Nat}

theorem arg_of (hT : TysOK P cfg.ty) {t : TypeId} {v : Value} {d : DataW H} {p : List MemPlace} (hg : good cfg.ty 9 t = true) (h : DataW.Trod enc P W 0 (fun _ => true) true t v d p) (hv : Value.okWide P W .any base t v) :
    ∃ x avs, look cfg.ty t = some x ∧ Ty cfg.ty 9 t avs ∧ AR W Any v (argA x avs) := by
  obtain ⟨fuel, hf⟩ := h
  cases hx : look cfg.ty t with
  | none => simp [good, hx] at hg
  | some x =>
    obtain ⟨avs, h1, h2, h3⟩ := trod_ty hT 9 t x fuel _ _ hg hx hf
    refine ⟨x, avs, rfl, h1, ?_⟩
    obtain ⟨⟨ds, hu, hsh⟩, _, _, hone, _⟩ := hT _ (look_mem hx)
    simp only at hu hsh hone
    unfold argA
    have single : v.cells.toList = [v] → x.size = 1 → AR W Any v (un1 avs) := by
      intro hc hs
      rw [hc] at h2
      cases h2 with
      | cons k1 k2 => cases k2; exact .pv (.leaf k1)
    cases hs : x.shape with
    | struct fs =>
      rw [hs] at hsh
      obtain ⟨fa, rfl, _⟩ := hsh
      simp only [Value.okWide, hu] at hv
      obtain ⟨cs, rfl, _⟩ := hv
      simp only
      have := AR.agg h2
      simpa [Value.cells] using this
    | bool =>
      rw [hs] at hsh
      simp only [ShOK] at hsh
      subst hsh
      simp only [Value.okWide, hu, Cell.okWide, Cell.ok] at hv
      simp only
      refine single ?_ (hone (by simp [hs]))
      cases v <;> first | rfl | (cases hv; done)
    | int k =>
      rw [hs] at hsh
      simp only [ShOK] at hsh
      subst hsh
      simp only [Value.okWide, hu, Cell.okWide, Cell.ok] at hv
      simp only
      refine single ?_ (hone (by simp [hs]))
      cases v <;> first | rfl | (cases hv; done)
    | str =>
      rw [hs] at hsh
      simp only [ShOK] at hsh
      subst hsh
      simp only [Value.okWide, hu, Cell.okWide, Cell.ok] at hv
      simp only
      refine single ?_ (hone (by simp [hs]))
      cases v <;> first | rfl | (cases hv; done)
    | slice e =>
      rw [hs] at hsh
      simp only [ShOK] at hsh
      subst hsh
      simp only [Value.okWide, hu, Cell.okWide, Cell.ok] at hv
      simp only
      refine single ?_ (hone (by simp [hs]))
      cases v <;> first | rfl | (cases hv; done)
    | ptr e => simp [good, hx, hs] at hg
    | func => simp [good, hx, hs] at hg
    | other => simp [good, hx, hs] at hg
theorem args_of (hT : TysOK P cfg.ty) : ∀ {ts : List TypeId} {vs : List Value} {ds : List (DataW H)} {ps : List MemPlace}, (∀ t ∈ ts, good cfg.ty 9 t = true) → DataW.TrodAll enc P W 0 (fun _ => true) true ts vs ds ps →
    (∀ (j : Nat) t v, ts[j]? = some t → vs[j]? = some v → Value.okWide P W .any base t v) → ∃ as, TyArgs cfg.ty ts as ∧ ARs W Any vs as
  | [], [], [], _, _, _, _ => ⟨[], .nil, .nil⟩
  | t :: ts, v :: vs, d :: ds, _, hg, ⟨p, q, h1, h2, _⟩, hv => by
    obtain ⟨x, avs, e1, e2, e3⟩ := arg_of hT (hg t (by simp)) h1 (hv 0 t v rfl rfl)
    obtain ⟨as, e4, e5⟩ := args_of hT (fun t ht => hg t (by simp [ht])) h2 (fun j t v a b => hv (j + 1) t v (by simpa using a) (by simpa using b))
    exact ⟨_, .cons e1 e2 e4, .cons e3 e5⟩
theorem trods_len {w : World} {b : Nat} {sp : Nat → Bool} {hd : Bool} : ∀ {ts : List TypeId} {vs : List Value} {ds : List (DataW H)} {ps : List MemPlace}, DataW.TrodAll enc P w b sp hd ts vs ds ps → ds.length = ts.length
  | [], [], [], _, _ => rfl
  | _ :: _, _ :: _, _ :: _, _, ⟨_, _, _, h2, _⟩ => by simp [trods_len h2]
theorem trods_stay (hl : laidOutB P = true) {W' : World} (hb : Go.RowKit.Below W.heap.size W W') : ∀ {ts : List TypeId} {vs : List Value} {ds : List (DataW H)} {ps : List MemPlace}, (∀ t ∈ ts, P.readableRec t = true ∧ t < P.types.size) → DataW.TrodAll enc P W 0 (fun _ => true) true ts vs ds ps →
    (∀ x ∈ ps, x.block < W.heap.size) → DataW.TrodAll enc P W' 0 (fun b => decide (b < W.heap.size)) true ts vs ds ps
  | [], [], [], _, _, h, _ => h
  | t :: ts, v :: vs, d :: ds, _, hr, ⟨p, q, h1, h2, e⟩, hlt => by
    subst e
    exact ⟨p, q, Go.RowKit.Below.trod hl (hr t (by simp)).1 (hr t (by simp)).2 h1 hb (fun x hx => hlt x (by simp [hx])), trods_stay hl hb (fun t ht => hr t (by simp [ht])) h2 (fun x hx => hlt x (by simp [hx])), rfl⟩

/-- The contract of a statement's function that hands back true, whatever it is given. -/
theorem law_contract (hc : CfgOK P envAny cfg) {s : ChangeSpec} {fn : Func} {fid : FuncId} {ts : List TypeId} {tb : TypeId} {apart fresh handsOn : Bool}
    (hpar : fn.params.toList = ts) (hres : fn.resultTypes = #[tb]) (htb : P.underlying tb = some .bool) (hvars : s.vars = [])
    (hfn : ∀ ds : List (DataW H), ds.length = ts.length → s.fn H ds = { results := [.lit (.bool true)], args := ds }) (hl : laidOutB P = true) (hr : ∀ t ∈ ts, P.readableRec t = true ∧ t < P.types.size) (hm : cfg.mode fid = 0)
    (hg : ∀ t ∈ ts, good cfg.ty 9 t = true) (pure : ∀ as, TyArgs cfg.ty ts as → ∃ n out, callP cfg n fid as = some ⟨.bool true, out⟩)
    {args : Array Value} {ds gs : List (DataW H)} {before : List MemPlace} (hval : ∀ (j : Nat) t v, fn.params[j]? = some t → args[j]? = some v → Value.okWide P W .any base t v)
    (hW : DataW.Whole enc P fn.params.toList s.vars apart W args.toList ds gs before) :
    Calls P fid args W fun e W' => ∃ v, e = .returned v ∧ s.post enc P fn apart fresh handsOn false W args v W' := by
  have hW' := hW
  have hlt0 : ∀ p ∈ before, p.block < W.heap.size := fun p hp => hW.lt p hp
  obtain ⟨p, q, hA, hV, rfl, hfz, hnd⟩ := hW
  rw [hvars] at hV
  obtain ⟨rfl, rfl⟩ := trodVars_none hV
  rw [hpar] at hA
  obtain ⟨as, e1, e2⟩ := args_of hc.ty hg hA (fun j t v a b => hval j t v (by rw [← Array.getElem?_toList, hpar]; exact a) (by rw [← Array.getElem?_toList]; exact b))
  obtain ⟨n, out, hn⟩ := pure as e1
  have hcall := callP_sound hc hm hn (w := W) trivial (Nat.zero_le _) e2
  rw [Array.toArray_toList] at hcall
  refine hcall.mono fun e W' ⟨v, he, F, T⟩ => ⟨v, he, ?_⟩
  obtain ⟨Ss, T, _⟩ := T
  have hvb : v = .bool true := by
    cases T with
    | one T => cases T with
      | one T => cases T; rfl
  subst hvb
  have hlen : ds.length = ts.length := trods_len hA
  have hsf := hfn ds hlen
  have hlt : ∀ x ∈ p, x.block < W.heap.size := fun x hx => hlt0 x (by simp [hx])
  refine ⟨ds, [], p ++ [], [], p, [], hW', ?_, ?_, ?_, F.below.frame _, fun h => (nomatch h)⟩
  · rw [List.append_nil, hsf, hres]
    exact trodAll_mk1 (shut_bool htb true)
  · rw [List.append_nil, hsf, hpar]
    exact trods_stay hl F.below hr hA hlt
  · rw [hvars, List.append_nil, hsf]
    rfl
end
end Go.Abs

/- The abstract machine, run: heads. -/
namespace Go.Abs
theorem br_pos {b : Bool} {x y : R} (h : b = true) : br b x y = x := by subst h; exact br_true _ _
theorem br_neg {b : Bool} {x y : R} (h : b = false) : br b x y = y := by subst h; exact br_false _ _
theorem bnd_call {cfg : Cfg} {n : Nat} {f : FuncId} {args : List AV} {v : Res} {k : Res → R} (h : callP cfg n f args = some v) : bnd ((lev cfg n).pure f args) k = k v := by
  rw [callP_def, h, bnd_some]
theorem both_eq {x y r : R} (hx : x = r) (hy : y = r) : both x y = r := both_of hx hy
theorem br_if {b : Bool} {x y r : R} (ht : b = true → x = r) (hf : b = false → y = r) : br b x y = r := br_cases ht hf
end Go.Abs

/- The abstract machine, run: loops, symbolic lists. -/
namespace Go.Abs

theorem evLoop_run {n : Nat} {live : List Nat} {body : St → (Exit → St → R) → R} {c : Exit → St → R} {fuel : Nat} {e : List AV} {s : List (List AV)} {h : Heap} (E : List AV → Nat → List AV) (H : Heap → Nat → Heap) (F : Nat → R) (N : Nat) (hN : N < fuel)
    (h0 : (⟨E e 0, s, H h 0⟩ : St) = ⟨e, s, h⟩)
    (step : ∀ k f, k ≤ N → (k < N → ∀ e' h', e' = E e (k + 1) → h' = H h (k + 1) → evLoop n live body f ⟨e', s, h'⟩ c = F (k + 1)) → (body ⟨E e k, s, H h k⟩ fun x st => match x with
      | .normal => clean n live st fun st => evLoop n live body f st c
      | x => c x st) = F k) : evLoop n live body fuel ⟨e, s, h⟩ c = F 0 := by
  have main : ∀ d k f, k ≤ N → N - k = d → d < f → evLoop n live body f ⟨E e k, s, H h k⟩ c = F k := by
    intro d
    induction d with
    | zero =>
      intro k f hk hd hf
      obtain ⟨f, rfl⟩ : ∃ m, f = m + 1 := ⟨f - 1, by omega⟩
      rw [evLoop_succ]
      exact step k f hk (fun hlt => absurd hlt (by omega))
    | succ d ih =>
      intro k f hk hd hf
      obtain ⟨f, rfl⟩ : ∃ m, f = m + 1 := ⟨f - 1, by omega⟩
      rw [evLoop_succ]
      exact step k f hk (fun hlt e' h' he hh => by rw [he, hh]; exact ih (k + 1) f (by omega) (by omega) (by omega))
  rw [← h0]
  exact main N 0 fuel (Nat.zero_le _) (by omega) hN
theorem getRow_eq {l : Rows} {i : Nat} {row : List AV} {k : List AV → R} (h : l[i]? = some row) : getRow l i k = k row := by
  induction l generalizing i with
  | nil => simp at h
  | cons a l ih => cases i with
    | zero => simp at h; subst h; rfl
    | succ i => exact ih (by simpa using h)
theorem map_get {α : Type} [Inhabited α] {l : List α} {f : α → List AV} {i : Nat} (h : i < l.length) : (l.map f)[i]? = some (f (l.getD i default)) := by
  simp [List.getD_eq_getElem?_getD, h]
theorem drop_cons {α : Type} [Inhabited α] {l : List α} {i : Nat} (h : i < l.length) : l.drop i = l.getD i default :: l.drop (i + 1) := by
  rw [List.drop_eq_getElem_cons h]
  congr 1
  simp [List.getD_eq_getElem?_getD, h]
theorem wrapI {x : Int} (h1 : -9223372036854775808 ≤ x) (h2 : x ≤ 9223372036854775807) : IntKind.i64.wrap x = x := by
  rw [IntKind.wrap_i64]; omega
theorem bne_t {a b : Int} (h : a ≠ b) : (a != b) = true := by simpa using h
theorem bne_f {a b : Int} (h : a = b) : (a != b) = false := by simpa using h
theorem beq_t {a b : Int} (h : a = b) : (a == b) = true := by simpa using h
theorem beq_f {a b : Int} (h : a ≠ b) : (a == b) = false := by simpa using h
theorem getRow_set {l : Rows} {i : Nat} {row : List AV} {k : List AV → R} (h : i < l.length) : getRow (l.set i row) i k = k row := getRow_eq (by simp [h])
theorem setRC_at {l : Rows} {i j : Nat} {v : AV} {k : Rows → R} {row : List AV} (h : l[i]? = some row) (hj : j < row.length) : setRC l i j v k = k (l.set i (row.set j v)) := setRC_eq h hj
theorem setRC_set {l : Rows} {i j : Nat} {v : AV} {k : Rows → R} {row : List AV} (h : i < l.length) (hj : j < row.length) : setRC (l.set i row) i j v k = k (l.set i (row.set j v)) := by
  rw [setRC_eq (row := row) (by simp [h]) hj, List.set_set]
/-- a list that is being filled -/
def fillR {α : Type} (f : α → List AV) (z : List AV) (xs : List α) (k : Nat) : Rows := (xs.take k).map f ++ List.replicate (xs.length - k) z
theorem fillR_zero {α : Type} {f : α → List AV} {z : List AV} {xs : List α} {n : Int} (h : n = (xs.length : Int)) : List.replicate n.toNat z = fillR f z xs 0 := by
  subst h; simp [fillR]
theorem fillR_len {α : Type} {f : α → List AV} {z : List AV} {xs : List α} {k : Nat} (h : k ≤ xs.length) : (fillR f z xs k).length = xs.length := by
  simp [fillR]; omega
theorem fillR_get {α : Type} {f : α → List AV} {z : List AV} {xs : List α} {k : Nat} (h : k < xs.length) : (fillR f z xs k)[k]? = some z := by
  unfold fillR
  have hl : ((xs.take k).map f).length = k := by rw [List.length_map, List.length_take]; omega
  rw [List.getElem?_append_right (by rw [hl]; exact Nat.le_refl _), hl, Nat.sub_self, List.getElem?_replicate, if_pos (by omega)]
theorem fillR_set {α : Type} [Inhabited α] {f : α → List AV} {z : List AV} {xs : List α} {k : Nat} (h : k < xs.length) : (fillR f z xs k).set k (f (xs.getD k default)) = fillR f z xs (k + 1) := by
  unfold fillR
  have hl : ((xs.take k).map f).length = k := by rw [List.length_map, List.length_take]; omega
  rw [List.set_append_right _ _ (by rw [hl]; exact Nat.le_refl _), hl, Nat.sub_self]
  obtain ⟨m, hm⟩ : ∃ m, xs.length - k = m + 1 := ⟨xs.length - k - 1, by omega⟩
  have hm' : xs.length - (k + 1) = m := by omega
  have hv : xs.getD k default = xs[k] := by simp [List.getD_eq_getElem?_getD, h]
  rw [hm, hm', List.replicate_succ, List.set_cons_zero, List.take_succ_eq_append_getElem h, hv, List.map_append]
  simp only [List.map_cons, List.map_nil, List.append_assoc, List.singleton_append]
theorem fillR_end {α : Type} {f : α → List AV} {z : List AV} {xs : List α} : fillR f z xs xs.length = xs.map f := by simp [fillR]
end Go.Abs

/- Loops with any state. -/
namespace Go.Abs
theorem evLoop_gen {n : Nat} {live : List Nat} {body : St → (Exit → St → R) → R} {c : Exit → St → R} {fuel : Nat} {e0 : List AV} {s : List (List AV)} {hp : Heap} {σ : Type} (E : List AV → σ → List AV) (H : Heap → σ → Heap) (F : σ → R) (I : σ → Prop) (μ : σ → Nat) (x0 : σ)
    (h0 : (⟨E e0 x0, s, H hp x0⟩ : St) = ⟨e0, s, hp⟩) (i0 : I x0) (hN : μ x0 < fuel)
    (step : ∀ x f, I x → (∀ y e' h', I y → μ y < μ x → e' = E e0 y → h' = H hp y → evLoop n live body f ⟨e', s, h'⟩ c = F y) → (body ⟨E e0 x, s, H hp x⟩ fun x st => match x with
      | .normal => clean n live st fun st => evLoop n live body f st c
      | x => c x st) = F x) : evLoop n live body fuel ⟨e0, s, hp⟩ c = F x0 := by
  have main : ∀ d x f, I x → μ x = d → d < f → evLoop n live body f ⟨E e0 x, s, H hp x⟩ c = F x := by
    intro d
    induction d using Nat.strongRecOn with
    | ind d ih =>
      intro x f hI hd hf
      obtain ⟨f, rfl⟩ : ∃ m, f = m + 1 := ⟨f - 1, by omega⟩
      rw [evLoop_succ]
      exact step x f hI (fun y e' h' hy hlt he hh => by rw [he, hh]; exact ih (μ y) (by omega) y f hy rfl (by omega))
  rw [← h0]
  exact main (μ x0) x0 fuel i0 rfl hN
/-- a list that is counted -/
theorem lt_map {α : Type} {xs : List α} {f : α → List AV} {k : Nat} (h : k < xs.length) : decide ((k : Int) < ((xs.map f).length : Int)) = true := by simpa using h
theorem nlt_map {α : Type} {xs : List α} {f : α → List AV} {k : Nat} (h : xs.length ≤ k) : decide ((k : Int) < ((xs.map f).length : Int)) = false := by simpa using h
theorem nonneg (k : Nat) : decide ((0 : Int) ≤ (k : Int)) = true := by simp
theorem wrapS {k : Nat} (h : k < 9223372036854775807) : IntKind.i64.wrap ((k : Int) + 1) = ((k + 1 : Nat) : Int) := by rw [wrapI] <;> omega
theorem getD_mem {α : Type} [Inhabited α] {xs : List α} {k : Nat} (h : k < xs.length) : xs.getD k default ∈ xs := by
  have : xs.getD k default = xs[k] := by simp [List.getD_eq_getElem?_getD, h]
  rw [this]; exact List.getElem_mem h
theorem bndS_step {x r : R} {k : St → R} {st : St} (h : x = some (encI st)) (h2 : k st = r) : bndS x k = r := (bndS_enc h).trans h2
end Go.Abs

/- A list that is being written over, from another of its length. -/
namespace Go.Abs
theorem mix_ex {α : Type} (ys xs : List α) (k : Nat) : ∃ l, l = ys.take k ++ xs.drop k := ⟨_, rfl⟩
@[irreducible] noncomputable def mix {α : Type} (ys xs : List α) (k : Nat) : List α := Classical.choose (mix_ex ys xs k)
theorem mix_def {α : Type} (ys xs : List α) (k : Nat) : mix ys xs k = ys.take k ++ xs.drop k := by unfold mix; exact Classical.choose_spec (mix_ex ys xs k)
theorem mix_zero {α : Type} (ys xs : List α) : mix ys xs 0 = xs := by simp [mix_def]
theorem mix_len {α : Type} {ys xs : List α} {k : Nat} (h : ys.length = xs.length) (hk : k ≤ xs.length) : (mix ys xs k).length = xs.length := by
  simp [mix_def]; omega
theorem mix_get {α : Type} [Inhabited α] {f : α → List AV} {ys xs : List α} {k : Nat} (h : ys.length = xs.length) (hk : k < xs.length) : ((mix ys xs k).map f)[k]? = some (f (xs.getD k default)) := by
  have hl : (ys.take k).length = k := by rw [List.length_take]; omega
  have e : (mix ys xs k)[k]? = xs[k]? := by
    rw [mix_def]
    rw [List.getElem?_append_right (by rw [hl]; exact Nat.le_refl _), hl, Nat.sub_self, List.getElem?_drop, Nat.add_zero]
  rw [List.getElem?_map, e]
  simp [List.getD_eq_getElem?_getD, hk]
theorem mix_set {α : Type} {f : α → List AV} {ys xs : List α} {k : Nat} {y : α} (h : ys.length = xs.length) (hk : k < xs.length) (hy : ys[k]? = some y) : ((mix ys xs k).map f).set k (f y) = (mix ys xs (k + 1)).map f := by
  have hl : (ys.take k).length = k := by rw [List.length_take]; omega
  have hky : k < ys.length := by omega
  have e : ys[k] = y := by rw [List.getElem?_eq_getElem hky] at hy; exact Option.some.inj hy
  rw [mix_def, mix_def]
  rw [List.map_append, List.map_append, List.set_append_right _ _ (by rw [List.length_map, hl]; exact Nat.le_refl _), List.length_map, hl, Nat.sub_self, List.drop_eq_getElem_cons hk, List.map_cons, List.set_cons_zero, List.take_succ_eq_append_getElem hky, e, List.map_append]
  simp only [List.map_cons, List.map_nil, List.append_assoc, List.singleton_append]
theorem mix_end {α : Type} {ys xs : List α} {k : Nat} (h : ys.length = xs.length) (hk : k = xs.length) : mix ys xs k = ys := by
  subst hk
  simp [mix_def, ← h]
theorem set_self {l : Rows} {k : Nat} {row : List AV} (h : l[k]? = some row) : l.set k row = l := by
  have hk : k < l.length := (List.getElem?_eq_some_iff.1 h).1
  have e : l[k] = row := by rw [List.getElem?_eq_getElem hk] at h; exact Option.some.inj h
  rw [← e, List.set_getElem_self]
theorem getRow_eqT {l : Rows} {i : Nat} {row : List AV} {k : List AV → R} (h : l[i]? = some row) : getRow l ((i : Int).toNat) k = k row := getRow_eq h
theorem getRow_setT {l : Rows} {i : Nat} {row : List AV} {k : List AV → R} (h : i < l.length) : getRow (l.set i row) ((i : Int).toNat) k = k row := getRow_set h
theorem setRC_atT {l : Rows} {i j : Nat} {v : AV} {k : Rows → R} {row : List AV} (h : l[i]? = some row) (hj : j < row.length) : setRC l ((i : Int).toNat) j v k = k (l.set i (row.set j v)) := setRC_at h hj
theorem setRC_setT {l : Rows} {i j : Nat} {v : AV} {k : Rows → R} {row : List AV} (h : i < l.length) (hj : j < row.length) : setRC (l.set i row) ((i : Int).toNat) j v k = k (l.set i (row.set j v)) := setRC_set h hj
theorem lt_set {l : List (List AV)} {i j : Nat} {x : List AV} (h : i < l.length) : decide ((i : Int) < ((l.set j x).length : Int)) = true := by
  rw [List.length_set]; simpa using h
theorem navR_nil (sz : Nat) (rows : Rows) (k : Nat → Rows → R) : navR [] sz rows k = k sz rows := by rw [navR_eq0]; rfl
theorem navR_at {rows : Rows} {i j : Nat} {row : List AV} {p : Path} {sz sz' : Nat} {rows' : Rows} {k : Nat → Rows → R} (h1 : rows[i]? = some row) (h2 : row[j]? = some (.lst sz' rows')) : navR ((i, j) :: p) sz rows k = navR p sz' rows' k := by
  rw [navR_eq0, navR0, getRow_eq h1]
  have : ∀ (l : List AV) (j : Nat) (v : AV) (k : AV → R), l[j]? = some v → getE l j k = k v := by
    intro l j v k h
    induction l generalizing j with
    | nil => simp at h
    | cons a l ih => cases j with
      | zero => simp at h; subst h; rfl
      | succ j => exact ih j (by simpa using h)
  rw [this _ _ _ _ h2]
theorem modR_nil (rows : Rows) (f : Rows → (Rows → R) → R) (k : Rows → R) : modR [] rows f k = f rows k := by rw [modR_eq0]; rfl
theorem modR_at {rows : Rows} {i j : Nat} {row : List AV} {p : Path} {sz' : Nat} {rows' : Rows} {f : Rows → (Rows → R) → R} {k : Rows → R} (h1 : rows[i]? = some row) (h2 : row[j]? = some (.lst sz' rows')) : modR ((i, j) :: p) rows f k = modR p rows' f fun rows'' => setRC rows i j (.lst sz' rows'') k := by
  rw [modR_eq0, modR0, getRow_eq h1]
  have : ∀ (l : List AV) (j : Nat) (v : AV) (k : AV → R), l[j]? = some v → getE l j k = k v := by
    intro l j v k h
    induction l generalizing j with
    | nil => simp at h
    | cons a l ih => cases j with
      | zero => simp at h; subst h; rfl
      | succ j => exact ih j (by simpa using h)
  rw [this _ _ _ _ h2]
theorem navR_atT {rows : Rows} {i j : Nat} {row : List AV} {p : Path} {sz sz' : Nat} {rows' : Rows} {k : Nat → Rows → R} (h1 : rows[i]? = some row) (h2 : row[j]? = some (.lst sz' rows')) : navR (((i : Int).toNat, j) :: p) sz rows k = navR p sz' rows' k := navR_at h1 h2
theorem modR_atT {rows : Rows} {i j : Nat} {row : List AV} {p : Path} {sz' : Nat} {rows' : Rows} {f : Rows → (Rows → R) → R} {k : Rows → R} (h1 : rows[i]? = some row) (h2 : row[j]? = some (.lst sz' rows')) : modR (((i : Int).toNat, j) :: p) rows f k = modR p rows' f fun rows'' => setRC rows ((i : Int).toNat) j (.lst sz' rows'') k := modR_at h1 h2
theorem set_get {l : Rows} {i : Nat} {row : List AV} (h : i < l.length) : (l.set i row)[i]? = some row := by simp [h]
end Go.Abs

/- Results that are found on the way. -/
namespace Go.Abs
theorem synB {x : R} {b b' : Bool} (h : x = some ⟨.bool b, []⟩) (e : b = b') : x = some ⟨.bool b', []⟩ := by rw [h, e]
theorem synI {x : R} {k : IntKind} {b b' : Int} (h : x = some ⟨.int k b, []⟩) (e : b = b') : x = some ⟨.int k b', []⟩ := by rw [h, e]
theorem synS {x : R} {b b' : ByteArray} (h : x = some ⟨.str b, []⟩) (e : b = b') : x = some ⟨.str b', []⟩ := by rw [h, e]
theorem br_syn {c : Bool} {X Y : R} {a b : Bool} (h1 : c = true → X = some ⟨.bool a, []⟩) (h2 : c = false → Y = some ⟨.bool b, []⟩) : br c X Y = some ⟨.bool (bif c then a else b), []⟩ := by
  cases c
  · rw [br_false]; exact h2 rfl
  · rw [br_true]; exact h1 rfl
theorem br_synI {c : Bool} {X Y : R} {k : IntKind} {a b : Int} (h1 : c = true → X = some ⟨.int k a, []⟩) (h2 : c = false → Y = some ⟨.int k b, []⟩) : br c X Y = some ⟨.int k (bif c then a else b), []⟩ := by
  cases c
  · rw [br_false]; exact h2 rfl
  · rw [br_true]; exact h1 rfl
theorem br_nt {b : Bool} {x y : R} (h : b = true) : br (!b) x y = y := by rw [h]; exact br_false x y
theorem br_nf {b : Bool} {x y : R} (h : b = false) : br (!b) x y = x := by rw [h]; exact br_true x y
theorem br_chk {c : Bool} {X : R} (h : c = true) : br c X none = X := by rw [h, br_true]
end Go.Abs

