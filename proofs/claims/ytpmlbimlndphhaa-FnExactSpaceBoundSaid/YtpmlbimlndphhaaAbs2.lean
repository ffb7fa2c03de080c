/- An abstract machine for the model's own code, and the proof that what it answers the program answers (part 2): no condition. -/
import Derived.Test.YtpmlbimlndphhaaAbs1
import Derived.Laws.Runes
import Derived.Deep.AppendSrc
import Derived.Great.BuildSlice
import Derived.Laws.IdiomStrings
import Derived.Laws.BytesArg
set_option linter.unusedVariables false
set_option linter.unusedSimpArgs false
/- Soundness 27: regions, control. -/
namespace Go.Abs
section
variable {P : Program} {cfg : Cfg} {lv : Lev} {C : Ctx} {ts : List (List Value)} {w w' : World} {a : Act} {st : St} {wr : Wrs} {g : Gh} {res : Res} {slot : Nat}

def CPost (C : Ctx) (ts : List (List Value)) (c : Exit → St → R) (res : Res) : Exit → Act → World → Prop := fun e a w => ∃ st, c e st = some res ∧ InvE C ts w a st
/-- every operation is sound at this level -/
def OpsOK (P : Program) (E : Env) (cfg : Cfg) (lv : Lev) : Prop := ∀ (C : Ctx) (_ : C.E = E) (ts : List (List Value)) (o : Oper) (slot : Nat) (st : St) (c : St → R) (res : Res) (a : Act) (w : World) (Q : Exit → Act → World → Prop),
  evOp cfg lv slot o st c = some res → InvE C ts w a st → o.wp P a w (Post C ts c res) Q

theorem upon_mono {o : Oper} {n1 n2 : Act → World → Prop} {Q : Exit → Act → World → Prop} (h : ∀ a w, n1 a w → n2 a w) {r : Result Next} (hr : o.upon P a n1 Q r) : o.upon P a n2 Q r := by
  cases r with
  | ok x w' =>
    cases x <;> simp only [Oper.upon] at hr ⊢ <;> try exact h _ _ hr
    case enter =>
      refine hr.mono fun e w'' he => ?_
      cases e with
      | returned v => exact h _ _ he
      | panicked => exact he
      | outgrown => exact he
    case row => exact hr.mono fun v w'' he => h _ _ he
    all_goals exact hr
  | halt x w' => cases x <;> simp only [Oper.upon] at hr ⊢ <;> exact hr
theorem wp_next {o : Oper} {n1 n2 : Act → World → Prop} {Q : Exit → Act → World → Prop} (h : ∀ a w, n1 a w → n2 a w) (hw : o.wp P a w n1 Q) : o.wp P a w n2 Q := upon_mono h hw

theorem Inv.skip {d : Option Tmp} {c : St → R} (I : Inv C ts w a st wr g) (h : putD st d (.tup []) c = some res) : Post C ts c res (a.put d Go.undef) w := I.put h .unit

theorem guard_sound {all : Array Oper} {o : Oper} {run skip : R} (I : Inv C ts w a st wr g) (h : guardK all.toList o.guard st run skip = some res) :
    (Region.wanted o (yielded all a.tmps) = true ∧ run = some res) ∨ (Region.wanted o (yielded all a.tmps) = false ∧ skip = some res) := by
  unfold guardK at h
  split at h
  · rename_i hg
    exact .inl ⟨by simp [Region.wanted, hg], h⟩
  · rename_i j want hg
    split at h
    · rename_i oj hj
      split at h
      · rename_i d hd
        obtain ⟨av, h1, h⟩ := getE_inv h
        obtain ⟨v, h2, h3⟩ := I.good.env.get h1
        have hy : ∀ x, yielded all a.tmps j = x → Region.wanted o (yielded all a.tmps) = (x == some want) := by
          intro x hx
          simp only [Region.wanted, hg, hx]
        have hlook : ((all[j]?).bind (·.dst)).bind (a.tmps[·]?) = some v := by
          have e1 : all[j]? = some oj := by rw [← Array.getElem?_toList]; exact hj
          have e2 : a.tmps[d]? = some v := by rw [← Array.getElem?_toList]; exact h2
          simp [e1, hd, e2]
        split at h
        · cases h3
          rename_i t
          have := hy (some t) (by simp [yielded, hlook])
          split at h
          · rcases br_inv h with ⟨ht, h'⟩ | ⟨ht, h'⟩
            · exact .inl ⟨by rw [this, ht]; rfl, h'⟩
            · exact .inr ⟨by rw [this, ht]; rfl, h'⟩
          · rcases br_inv h with ⟨ht, h'⟩ | ⟨ht, h'⟩
            · exact .inr ⟨by rw [this, ht]; rfl, h'⟩
            · exact .inl ⟨by rw [this, ht]; rfl, h'⟩
        · cases h3 with
          | tup h4 =>
            have := hy none (by simp [yielded, hlook])
            exact .inr ⟨by rw [this]; rfl, h⟩
        · cases h
      · cases h
    · cases h

theorem evOps_sound {E : Env} (hE : C.E = E) (hO : OpsOK P E cfg lv) {all : Array Oper} {Q : Exit → Act → World → Prop} {c : St → R} (hQ : ∀ a w, Post C ts c res a w → Q .normal a w) :
    ∀ (n : Nat) (i : Nat) (st : St) (a : Act) (w : World), all.size - i = n → evOps cfg lv all.toList (all.toList.drop i) st c = some res → InvE C ts w a st → wpOps P all Q ((List.range all.size).drop i) a w := by
  intro n
  induction n with
  | zero =>
    intro i st a w hn h I
    have e1 : all.toList.drop i = [] := List.drop_eq_nil_of_le (by rw [Array.length_toList]; omega)
    have e2 : (List.range all.size).drop i = [] := List.drop_eq_nil_of_le (by simp; omega)
    rw [e1, evOps_nil] at h
    rw [e2]
    exact hQ a w ⟨st, h, I⟩
  | succ n ih =>
    intro i st a w hn h I
    have hi : i < all.size := by omega
    have e1 : all.toList.drop i = all[i] :: all.toList.drop (i + 1) := by
      rw [List.drop_eq_getElem_cons (by simpa using hi)]
      simp
    have e2 : (List.range all.size).drop i = i :: (List.range all.size).drop (i + 1) := by
      rw [List.drop_eq_getElem_cons (by simpa using hi)]
      simp
    rw [e1] at h
    rw [e2]
    rw [evOps_cons] at h
    obtain ⟨wr, g, I0⟩ := I
    have hnext : ∀ a w, Post C ts (fun st => evOps cfg lv all.toList (all.toList.drop (i + 1)) st c) res a w → wpOps P all Q ((List.range all.size).drop (i + 1)) a w := fun a w ⟨st', h1, h2⟩ => ih (i + 1) st' a w (by omega) h1 h2
    have ho : all[i]? = some all[i] := Array.getElem?_eq_getElem hi
    simp only [wpOps, ho]
    rcases guard_sound I0 h with ⟨hw, h⟩ | ⟨hw, h⟩
    · rw [if_pos hw]
      have h := lenH_inv h
      exact .inl (wp_next hnext (hO C hE ts _ _ st _ res a w Q h ⟨wr, g, I0⟩))
    · rw [if_neg (by rw [hw]; simp)]
      exact hnext _ _ (I0.skip h)
end

end Go.Abs

/- Soundness 28: code. -/
namespace Go.Abs
section
variable {P : Program} {cfg : Cfg} {lv : Lev} {C : Ctx} {ts : List (List Value)} {w w' : World} {a : Act} {st : St} {wr : Wrs} {g : Gh} {res : Res} {slot : Nat}

theorem least {p : Nat → Prop} (h : ∃ n, p n) : ∃ n, p n ∧ ∀ m, p m → n ≤ m := by
  classical
  obtain ⟨n, hn⟩ := h
  induction n using Nat.strongRecOn with
  | _ n ih =>
    by_cases hx : ∃ m, m < n ∧ p m
    · obtain ⟨m, hm, hp⟩ := hx
      exact ih m hm hp
    · exact ⟨n, hn, fun m hm => Nat.le_of_not_lt fun hlt => hx ⟨m, hlt, hm⟩⟩
noncomputable def leastN {p : Nat → Prop} (h : ∃ n, p n) : Nat := Classical.choose (least h)
theorem leastN_spec {p : Nat → Prop} (h : ∃ n, p n) : p (leastN h) := (Classical.choose_spec (least h)).1
theorem leastN_le {p : Nat → Prop} (h : ∃ n, p n) {m : Nat} (hm : p m) : leastN h ≤ m := (Classical.choose_spec (least h)).2 m hm

/-- a region that draws its order is sound at this level -/
def DrawOK (P : Program) (E : Env) (draw : Nat → List Oper → St → (St → R) → R) (id : Nat) (all : Array Oper) : Prop := ∀ (C : Ctx) (_ : C.E = E) (ts : List (List Value)) (st : St) (c : St → R) (res : Res) (a : Act) (w : World) (Q : Exit → Act → World → Prop),
  draw id all.toList st c = some res → InvE C ts w a st → (∀ a w, Post C ts c res a w → Q .normal a w) → ∀ t, wpOps P all Q (Region.schedule (P.follows .mixedOrders) all t) a { w with drawn := w.drawn + 1 }
def DrawsOK (P : Program) (E : Env) (draw : Nat → List Oper → St → (St → R) → R) : Code → Prop
  | .region id ops d => d = true → DrawOK P E draw id ops
  | .seq a b => DrawsOK P E draw a ∧ DrawsOK P E draw b
  | .cond _ a b => DrawsOK P E draw a ∧ DrawsOK P E draw b
  | .block _ a => DrawsOK P E draw a
  | .loop a => DrawsOK P E draw a
  | _ => True
def CleanOK : Prop := ∀ (C : Ctx) (ts : List (List Value)) (n : Nat) (live : List Nat) (st : St) (k : St → R) (res : Res) (a : Act) (w : World), clean n live st k = some res → InvE C ts w a st → ∃ st', k st' = some res ∧ InvE C ts w a st'

theorem ev_sound {E : Env} (hE : C.E = E) (hO : OpsOK P E cfg lv) {draw : Nat → List Oper → St → (St → R) → R} (hC : CleanOK) {f : FuncId} :
    ∀ (code : Code) (_ : DrawsOK P E draw code) (st : St) (c : Exit → St → R) (res : Res) (a : Act) (w : World), ev cfg lv draw f code st c = some res → InvE C ts w a st → code.wp P (CPost C ts c res) a w := by
  intro code
  induction code with
  | skip => intro hD st c res a w h I; rw [ev_skip] at h; exact wp_skip ⟨st, h, I⟩
  | label l => intro hD st c res a w h I; rw [ev_eq0] at h; exact wp_label ⟨st, h, I⟩
  | region id ops d =>
    intro hD st c res a w h I
    cases d with
    | false =>
      rw [ev_region, listK_eq] at h
      have := evOps_sound (all := ops) (c := c .normal) (Q := CPost C ts c res) hE hO (fun a w h => h) _ 0 st a w rfl (by simpa using h) I
      exact wp_region (by simpa using this)
    | true =>
      rw [ev_draw] at h
      exact wp_region_draw (hD rfl C hE ts st (c .normal) res a w _ h I (fun a w h => h))
  | seq x y ihx ihy =>
    intro hD st c res a w h I
    rw [ev_seq] at h
    refine wp_seq (wp_mono (ihx hD.1 st _ res a w h I) fun e a' w' hp => ?_)
    obtain ⟨st', h1, h2⟩ := hp
    cases e with
    | normal => exact ihy hD.2 st' c res a' w' h1 h2
    | exit id => exact ⟨st', h1, h2⟩
    | goto l => exact ⟨st', h1, h2⟩
    | ret => exact ⟨st', h1, h2⟩
    | panic ch => exact ⟨st', h1, h2⟩
    | outgrown => exact ⟨st', h1, h2⟩
  | cond x p q ihp ihq =>
    intro hD st c res a w h I
    rw [ev_cond] at h
    obtain ⟨wr, g, I0⟩ := I
    obtain ⟨av, h, H⟩ := opnd_sound h I0.good.env
    split at h
    · rename_i t _
      generalize hx : a.eval x = vx at H
      cases H
      rcases br_inv h with ⟨ht, h'⟩ | ⟨ht, h'⟩
      · exact wp_cond_true (by rw [hx, ht]) (ihp hD.1 st c res a w h' ⟨wr, g, I0⟩)
      · exact wp_cond_false (by rw [hx, ht]) (ihq hD.2 st c res a w h' ⟨wr, g, I0⟩)
    · cases h
  | block id b ih =>
    intro hD st c res a w h I
    rw [ev_block] at h
    refine wp_block (wp_mono (ih hD st _ res a w h I) fun e a' w' hp => ?_)
    obtain ⟨st', h1, h2⟩ := hp
    cases e with
    | normal => exact ⟨st', h1, h2⟩
    | exit id' =>
      simp only at h1
      simp only [Exit.inBlock]
      split
      · rename_i e
        rw [if_pos e] at h1
        exact ⟨st', h1, h2⟩
      · rename_i e
        rw [if_neg e] at h1
        exact ⟨st', h1, h2⟩
    | goto l => exact ⟨st', h1, h2⟩
    | ret => exact ⟨st', h1, h2⟩
    | panic ch => exact ⟨st', h1, h2⟩
    | outgrown => exact ⟨st', h1, h2⟩
  | loop b ih =>
    intro hD st c res a w h I
    rw [ev_loop] at h
    have h := lenH_inv h
    obtain ⟨n, hn⟩ : ∃ n, n = st.heap.length := ⟨_, rfl⟩
    obtain ⟨live, hlive⟩ : ∃ live, live = cfg.live f (firstR b) := ⟨_, rfl⟩
    rw [← hn, ← hlive] at h
    obtain ⟨st0, h, I⟩ := hC _ _ _ _ _ _ _ _ _ h I
    obtain ⟨fuel, hf⟩ : ∃ fuel, fuel = cfg.fuel := ⟨_, rfl⟩
    rw [← hf] at h
    have hI : ∃ k st, evLoop n live (ev cfg lv draw f b) k st c = some res ∧ InvE C ts w a st := ⟨fuel, st0, h, I⟩
    classical
    refine wp_loop (fun a w => ∃ k st, evLoop n live (ev cfg lv draw f b) k st c = some res ∧ InvE C ts w a st)
      (fun a w => if h : ∃ k st, evLoop n live (ev cfg lv draw f b) k st c = some res ∧ InvE C ts w a st then leastN h else 0) hI ?_
    intro a w hI
    rw [dif_pos hI]
    obtain ⟨st1, h1, I1⟩ := leastN_spec hI
    obtain ⟨k, hk⟩ : ∃ k, k = leastN hI := ⟨_, rfl⟩
    rw [← hk] at h1 ⊢
    cases k with
    | zero => simp [evLoop_zero] at h1
    | succ k =>
      simp only [evLoop_succ] at h1
      refine wp_mono (ih hD st1 _ res a w h1 I1) fun e a' w' hp => ?_
      obtain ⟨st', h1, h2⟩ := hp
      cases e with
      | normal =>
        obtain ⟨st'', h3, h4⟩ := hC _ _ _ _ _ _ _ _ _ h1 h2
        have hI' : ∃ k st, evLoop n live (ev cfg lv draw f b) k st c = some res ∧ InvE C ts w' a' st := ⟨k, st'', h3, h4⟩
        refine ⟨hI', ?_⟩
        rw [dif_pos hI']
        exact Nat.lt_succ_of_le (leastN_le hI' ⟨st'', h3, h4⟩)
      | exit id => exact ⟨st', h1, h2⟩
      | goto l => exact ⟨st', h1, h2⟩
      | ret => exact ⟨st', h1, h2⟩
      | panic ch => exact ⟨st', h1, h2⟩
      | outgrown => exact ⟨st', h1, h2⟩
  | exit id => intro hD st c res a w h I; rw [ev_exit] at h; exact wp_exit ⟨st, h, I⟩
  | ret => intro hD st c res a w h I; rw [ev_ret] at h; exact wp_ret ⟨st, h, I⟩
  | _ => intro hD st c res a w h I; simp [ev_eq0, ev0] at h
end

end Go.Abs

/- Soundness 29: the head of a loop. -/
namespace Go.Abs

abbrev Below (n : Nat) : Nat → Path → Prop := fun r _ => r < n
theorem keepE_inv {live : List Nat} {res : Res} : ∀ {l : List AV} {i : Nat} {k : List AV → R}, keepE live i l k = some res → ∃ l', k l' = some res ∧ ∀ w h g vs, VRs w h g vs l → VRs w h g vs l'
  | [], _, k, hh => ⟨[], hh, fun _ _ _ _ h => h⟩
  | v :: l, i, k, hh => by
    simp only [keepE] at hh
    obtain ⟨l', hh, h1⟩ := keepE_inv hh
    split at hh
    · exact ⟨_, hh, fun w h g vs H => by cases H with | cons h2 h3 => exact .cons h2 (h1 _ _ _ _ h3)⟩
    · exact ⟨_, hh, fun w h g vs H => by cases H with | cons h2 h3 => exact .cons (.undef _) (h1 _ _ _ _ h3)⟩
theorem ok0_refs {n : Nat} {a : AV} (h : ok0 n a = true) : Refs (Below n) a := by
  cases a <;> simp only [ok0, decide_eq_true_eq] at h <;> first | exact h | trivial | (cases h)
theorem okL0_refs {n : Nat} : ∀ {l : List AV}, okL0 n l = true → RefsL (Below n) l
  | [], _ => trivial
  | a :: l, h => by
    simp only [okL0] at h
    split at h
    · rename_i h0; exact ⟨ok0_refs h0, okL0_refs h⟩
    · cases h
theorem ok1_refs {n : Nat} {a : AV} (h : ok1 n a = true) : Refs (Below n) a := by
  cases a with
  | agg cs => simp only [ok1] at h; exact okL0_refs h
  | fn f cs => simp only [ok1] at h; exact okL0_refs h
  | _ => exact ok0_refs h
theorem okL1_refs {n : Nat} : ∀ {l : List AV}, okL1 n l = true → RefsL (Below n) l
  | [], _ => trivial
  | a :: l, h => by
    simp only [okL1] at h
    split at h
    · rename_i h0; exact ⟨ok1_refs h0, okL1_refs h⟩
    · cases h
theorem ok2_refs {n : Nat} {a : AV} (h : ok2 n a = true) : Refs (Below n) a := by
  cases a with
  | tup cs => simp only [ok2] at h; exact okL1_refs h
  | _ => exact ok1_refs h
theorem okL2_refs {n : Nat} : ∀ {l : List AV}, okL2 n l = true → RefsL (Below n) l
  | [], _ => trivial
  | a :: l, h => by
    simp only [okL2] at h
    split at h
    · rename_i h0; exact ⟨ok2_refs h0, okL2_refs h⟩
    · cases h
theorem okStk_refs {n : Nat} : ∀ {l : List (List AV)}, okStk n l = true → ∀ e ∈ l, RefsL (Below n) e
  | [], _, e, he => by simp at he
  | a :: l, h, e, he => by
    simp only [okStk] at h
    split at h
    · rename_i h0
      rcases List.mem_cons.1 he with rfl | he
      · exact okL2_refs h0
      · exact okStk_refs h e he
    · cases h
theorem okRows_refs {n : Nat} : ∀ {l : Rows}, okRows n l = true → ∀ e ∈ l, RefsL (Below n) e
  | [], _, e, he => by simp at he
  | a :: l, h, e, he => by
    simp only [okRows] at h
    split at h
    · rename_i h0
      rcases List.mem_cons.1 he with rfl | he
      · exact okL1_refs h0
      · exact okRows_refs h e he
    · cases h
theorem RefsL_mem {P : Nat → Path → Prop} : ∀ {l : List AV}, RefsL P l → ∀ a ∈ l, Refs P a
  | [], _, a, ha => by simp at ha
  | b :: l, h, a, ha => by
    rcases List.mem_cons.1 ha with rfl | ha
    · exact h.1
    · exact RefsL_mem h.2 a ha
theorem takeH_inv {n0 : Nat} {res : Res} : ∀ {n : Nat} {h : Heap} {k : Heap → R}, takeH n0 n h k = some res → ∃ h', k h' = some res ∧ (∀ r, h'[r]?.join = if r < n then h[r]?.join else none) ∧
    ∀ (r : Nat) (x : Root), r < n → h[r]?.join = some x → x.box = true → ∀ row ∈ x.rows, RefsL (Below n0) row
  | 0, _, k, hh => ⟨[], by simpa [takeH] using hh, fun r => by simp, fun r x hr => by omega⟩
  | n + 1, [], k, hh => by simp [takeH] at hh
  | n + 1, b :: h, k, hh => by
    have fin : ∀ (b : Option Root), (∀ x, b = some x → x.box = true → ∀ row ∈ x.rows, RefsL (Below n0) row) → takeH n0 n h (fun h => k (b :: h)) = some res →
        ∃ h', k h' = some res ∧ (∀ r, h'[r]?.join = if r < n + 1 then (b :: h)[r]?.join else none) ∧ ∀ (r : Nat) (x : Root), r < n + 1 → (b :: h)[r]?.join = some x → x.box = true → ∀ row ∈ x.rows, RefsL (Below n0) row := by
      intro b hb hh
      obtain ⟨h', h1, h2, h3⟩ := takeH_inv hh
      refine ⟨b :: h', h1, fun r => ?_, fun r x hr hx => ?_⟩
      · cases r with
        | zero => simp
        | succ r => simp only [List.getElem?_cons_succ, h2 r]; simp
      · cases r with
        | zero => exact hb x (by simpa using hx)
        | succ r => exact h3 r x (by omega) (by simpa using hx)
    simp only [takeH] at hh
    cases b with
    | none => exact fin none (fun x hx => by cases hx) hh
    | some x =>
      obtain ⟨ro, virt, box, sz, rows⟩ := x
      simp only at hh
      cases box with
      | true =>
        simp only at hh
        split at hh
        · rename_i hok
          exact fin _ (fun x hx _ row hr => by cases hx; exact okRows_refs hok row hr) hh
        · cases hh
      | false => exact fin _ (fun x hx hb => by cases hx; cases hb) hh

theorem clean_ok : CleanOK := by
  intro C ts n live st k res a w h I
  obtain ⟨wr, g, I⟩ := I
  unfold clean at h
  obtain ⟨e, h, he⟩ := keepE_inv h
  split at h
  · rename_i h1
    split at h
    · rename_i h2
      obtain ⟨h', h, h3, h4⟩ := takeH_inv h
      have henv := okL2_refs h1
      have hstk := okStk_refs h2
      have look : ∀ r, r < n → h'[r]?.join = st.heap[r]?.join := fun r hr => by rw [h3, if_pos hr]
      have keeps : Keeps (Below n) w st.heap g w h' g := fun r p v sz rows hr hq => ⟨rows, (hwalk_look (look r hr) p).trans hq, rfl⟩
      have hin : ∀ r x, h'[r]?.join = some x → r < n ∧ st.heap[r]?.join = some x := by
        intro r x hx
        rw [h3] at hx
        split at hx
        · rename_i hr; exact ⟨hr, hx⟩
        · cases hx
      have rel : Rel w wr h' g := by
        refine ⟨fun r x hx => ?_, fun r x r' x' k hx hx' => ?_, fun r x k hx => ?_⟩
        · obtain ⟨hr, hx⟩ := hin r x hx
          have hR := I.good.rel.root r x hx
          unfold RootR at hR ⊢
          split
          · rename_i hv; simp only [hv] at hR; exact hR
          · rename_i hv
            simp only [hv] at hR
            split
            · rename_i hb
              simp only [hb] at hR
              obtain ⟨b, o, cs, e0, fz, f, k1, k2, k3, k4, k5, k6, k7, k8, k9⟩ := hR
              refine ⟨b, o, cs, e0, fz, f, k1, k2, k3, k4, k5, k6, k7, k8, fun i j row av hrow hav => ?_⟩
              have hc := k9 i j row av hrow hav
              unfold CellB at hc ⊢
              split
              · rename_i hX
                simp only [hX] at hc
                exact VR.keep keeps hc (RefsL_mem (h4 r x hr hx hb row (mem_get hrow)) av (mem_get hav))
              · rename_i hX
                simp only [hX] at hc
                exact hc
            · rename_i hb
              simp only [hb] at hR
              exact hR
        · exact I.good.rel.sep r x r' x' k (hin r x hx).2 (hin r' x' hx').2
        · exact I.good.rel.low r x k (hin r x hx).2
      exact ⟨_, h, wr, g, ⟨rel, VRs.keep keeps (he _ _ _ _ I.good.env) henv, StkR.keep keeps I.good.stk hstk⟩, I.fr, I.can, I.dom, I.nodef⟩
    · cases h
  · cases h

end Go.Abs

/- Soundness 30: slices made. -/
namespace Go.Abs
section
variable {P : Program} {cfg : Cfg} {lv : Lev} {C : Ctx} {ts : List (List Value)} {w w' : World} {a : Act} {st : St} {wr : Wrs} {g : Gh} {c : St → R} {res : Res} {o : Oper} {slot : Nat}

theorem grid_mod {sz i j : Nat} (hj : j < sz) : (i * sz + j) % sz = j := by
  rw [Nat.add_comm, Nat.add_mul_mod_self_right]
  exact Nat.mod_eq_of_lt hj
/-- zero cells, row by row -/
theorem zero_grid {t : TypeId} {x : TInfo} (hx : TyOK P t x) {h : Heap} {z : Value} {ii : TypeInfo} (hi : P.info? t = some ii) (hz : ii.zero = some z) (n m : Nat) (hn : n ≤ m) (ex : Bool) :
    Grid w wr h g ex x.size (List.replicate n x.zero) ((Array.range (m * x.size)).map (z.cells[· % z.cells.size]!)) (fun _ _ _ => False) := by
  obtain ⟨i', z', h1, _, _, h4, h5, h6, h7⟩ := hx.zeros
  rw [hi] at h1
  cases h1
  rw [hz] at h4
  cases h4
  refine ⟨fun row hr => by rw [List.eq_of_mem_replicate hr]; exact h6, fun i j row av hr ha => ?_, fun _ _ _ h => h.elim, fun _ _ _ _ _ h => h.elim⟩
  have hi' : i < n := by have := (List.getElem?_eq_some_iff.1 hr).1; simpa using this
  have hrow : row = x.zero := List.eq_of_mem_replicate (mem_get hr)
  subst hrow
  have hj : j < x.size := by rw [← h6]; exact (List.getElem?_eq_some_iff.1 ha).1
  have hlt : i * x.size + j < m * x.size := by
    have : (i + 1) * x.size ≤ m * x.size := Nat.mul_le_mul_right _ (by omega)
    rw [Nat.succ_mul] at this
    omega
  have e1 : ((Array.range (m * x.size)).map (z.cells[· % z.cells.size]!)).getD (i * x.size + j) default = z.cells.getD j default := by
    have hj' : j < z.cells.size := by omega
    simp only [Array.getD_eq_getD_getElem?, Array.getElem?_map, Array.getElem?_range, hlt, if_true, Option.map_some, Option.getD_some, h5, grid_mod hj]
    simp [hj']
  rw [e1]
  obtain ⟨k1, k2⟩ := zero_tree (h7 j av ha) w (Kr w wr false) (fun _ => False)
  exact ⟨fun _ => k1, fun h => by rw [k2] at h; cases h⟩

theorem ev_makeSlice (hT : TysOK P cfg.ty) {t : TypeId} {x y : Operand} {Q : Exit → Act → World → Prop} (ho : o.op = .makeSlice t x y) (h : evOp cfg lv slot o st c = some res) (I : Inv C ts w a st wr g) : o.wp P a w (Post C ts c res) Q := by
  simp only [evOp, ho] at h
  obtain ⟨ti, hti, h⟩ := tyK_inv h
  obtain ⟨d, hd, hsh⟩ := (hT _ hti).run (w := w)
  simp only at hd hsh
  split at h
  · rename_i e hs
    rw [hs] at hsh
    simp only [ShOK] at hsh
    subst hsh
    obtain ⟨tj, htj, h⟩ := tyK_inv h
    split at h
    · cases h
    · rename_i hb0
      obtain ⟨ax, h, Hx⟩ := opnd_sound h I.good.env
      obtain ⟨ay, h, Hy⟩ := opnd_sound h I.good.env
      split at h
      · rename_i kd n kd' m _
        generalize hx : a.eval x = vx at Hx
        generalize hy : a.eval y = vy at Hy
        cases Hx
        cases Hy
        rcases br_inv h with ⟨h0, h⟩ | ⟨_, h⟩
        · rcases br_inv h with ⟨h1, h⟩ | ⟨_, h⟩
          · rcases br_inv h with ⟨h2, h⟩ | ⟨_, h⟩
            · simp only [decide_eq_true_eq] at h0 h1 h2
              obtain ⟨hsl, h⟩ := newRoot_inv h
              obtain ⟨ii, z, hi1, hi2, hi3, hi4, hzc, _, _⟩ := (hT _ htj).zeros
              simp only at hi1 hi2 hi3 hzc
              have hm : m.toNat ≤ roomB := by
                have hb1 : tj.bytes ≠ 0 := fun e => hb0 e
                have : m.toNat * 1 ≤ m.toNat * tj.bytes := Nat.mul_le_mul_left _ (by omega)
                omega
              have hmi : m < 9223372036854775808 := by unfold roomB at hm; omega
              have D := zero_grid (w := w) (wr := wr) (g := g) (hT _ htj) (h := st.heap) hi1 hi4 n.toNat m.toNat (by omega) false
              obtain ⟨g', k1, k2, _⟩ := I.good.block (e := e) hsl m.toNat D (by simp; omega) (by simp) (fun h => by cases h) (hT _ htj).pos
              simp only [List.length_replicate] at k2
              refine wp_value (s := Instr.makeSlice t (a.eval x) (a.eval y)) (v := .slice (some ⟨w.heap.size, 0, none⟩) n.toNat m.toNat) (by simp only [execOp, ho]) ?_ ((I.alloc k1).put h (.ref k2))
              have w1 := wrap_small n h0 (by omega)
              have w2 := wrap_small m (by omega) hmi
              have hbytes : ¬ ((tj.bytes : Int) * m > 2 ^ 48) := by
                have e1 : ((m.toNat * tj.bytes : Nat) : Int) = m * tj.bytes := by rw [Int.natCast_mul, Int.toNat_of_nonneg (by omega)]
                have e2 : (tj.bytes : Int) * m = m * tj.bytes := Int.mul_comm _ _
                unfold roomB at h2
                omega
              have hcells : ((Array.range (m.toNat * ii.size)).map ((if m.toNat * ii.size = 0 then (#[] : Array Value) else z.cells)[· % (if m.toNat * ii.size = 0 then (#[] : Array Value) else z.cells).size]!)) = (Array.range (m.toNat * tj.size)).map (z.cells[· % z.cells.size]!) := by
                rw [hi2]
                by_cases h0 : m.toNat * tj.size = 0
                · simp [h0]
                · simp [h0]
              rw [hx, hy]
              have hl0 : ¬ (n < 0) := by omega
              have hm0 : ¬ (m < 0) := by omega
              have hlm : ¬ (n > m) := by omega
              have hti' : (typeInfo e).run P w = .ok ii w := by simp [typeInfo, hi1]
              have hsz' : (sizeOf e).run P w = .ok ii.size w := by simp [sizeOf, typeInfo, hi1]
              rw [← hi3] at hbytes
              have hfin : ∀ zz : Array Value, zz = (if m.toNat * ii.size = 0 then (#[] : Array Value) else z.cells) → (newRow e ((Array.range (m.toNat * ii.size)).map (zz[· % zz.size]!))).run P w = .ok ⟨w.heap.size, 0, none⟩ (w.alloc (.cells ((Array.range (m.toNat * tj.size)).map (z.cells[· % z.cells.size]!)) e (0, 0))) := by
                intro zz hzz
                subst hzz
                rw [hcells]
                simp [newRow]
              simp only [Instr.makeSlice, Sem.run_bind, hd, Result.andThen_ok, asInt, asIntOf, Sem.run_pure, hti', w1, w2]
              rw [if_neg (by simp; omega)]
              simp only [Sem.run_bind, run_askRoom, Result.andThen_ok, hsz']
              have hzv : (zeroValue e).run P w = .ok z w := by simp [zeroValue, typeInfo, hi1, hi4]
              split
              · rename_i h0'
                simp only [Sem.run_bind, Sem.run_pure, Result.andThen_ok, hfin #[] (by rw [if_pos h0'])]
              · rename_i h0'
                simp only [Sem.run_bind, Sem.run_pure, Result.andThen_ok, hzv, hfin z.cells (by rw [if_neg h0'])]
            · cases h
          · cases h
        · cases h
      · cases h
  · cases h
end

end Go.Abs

/- Soundness 31: the small builtins. -/
namespace Go.Abs
section
variable {P : Program} {cfg : Cfg} {lv : Lev} {C : Ctx} {ts : List (List Value)} {w w' : World} {a : Act} {st : St} {wr : Wrs} {g : Gh} {res : Res} {slot : Nat}

theorem lenOf_sound {hp : Heap} (RL : Rel w wr hp g) {v : Value} {av : AV} {k : Nat → R} (h : lenOf hp av k = some res) (H : VR w hp g v av) : ∃ n, k n = some res ∧
    ((∃ a c, v = .slice a n c) ∨ (∃ s, v = .string s ∧ n = s.size)) := by
  cases H <;> simp only [lenOf] at h <;> try (cases h; done)
  · exact ⟨_, h, .inr ⟨_, rfl, rfl⟩⟩
  · exact ⟨0, h, .inl ⟨_, _, rfl⟩⟩
  · rename_i r p sz rows h1
    obtain ⟨x, sz', rows', hres, h⟩ := nav_inv h
    obtain ⟨x', hx', hr', _⟩ := hwalk_res h1
    simp only [Abs.res, hx', hr', Option.some.injEq, Prod.mk.injEq] at hres
    obtain ⟨_, rfl, rfl⟩ := hres
    obtain ⟨aa, n, c, rfl, hn⟩ := RL.slice_of h1
    exact ⟨_, h, .inl ⟨aa, c, by rw [hn]⟩⟩
  · rename_i r p off len sz rows v0 h1 hl h2
    obtain ⟨aa, c, rfl⟩ := h2.one
    exact ⟨_, h, .inl ⟨_, _, rfl⟩⟩
  · exact ⟨0, h, .inl ⟨_, _, rfl⟩⟩
/-- what a builtin gives -/
def BOut (P : Program) (C : Ctx) (ts : List (List Value)) (w : World) (a : Act) (b : Builtin) (tys : Array TypeId) (vals : Array Value) (k : AV → St → R) (res : Res) : Prop :=
  ∀ (ty : TypeId) (consts : Array Bool), ∃ (s : Sem Value) (v : Value) (av : AV) (w' : World) (st' : St) (wr' : Wrs) (g' : Gh), builtin b tys ty consts vals = (do pure (.value (← s))) ∧ s.run P w = .ok v w' ∧ Inv C ts w' a st' wr' g' ∧ VR w' st'.heap g' v av ∧ k av st' = some res
theorem b_len (hT : TysOK P cfg.ty) {tys : Array TypeId} {vals : List Value} {vs : List AV} {k : AV → St → R} (h : builtinOp cfg slot .len tys.toList vs st k = some res) (I : Inv C ts w a st wr g) (H : VRs w st.heap g vals vs) :
    BOut P C ts w a .len tys vals.toArray k res := by
  intro ty consts
  unfold builtinOp at h
  split at h
  · cases H with
    | cons H1 H2 =>
      cases H2
      rename_i u _ _
      split at h
      · rename_i t htys
        have htys : tys = #[t] := by rw [← Array.toList_inj]; simpa using htys
        subst htys
        obtain ⟨ti, hti, h⟩ := tyK_inv h
        obtain ⟨d, hd, hsh⟩ := (hT _ hti).run (w := w)
        simp only at hd hsh
        split at h
        · rename_i hs
          rw [hs] at hsh
          simp only [ShOK] at hsh
          subst hsh
          split at h
          · cases H1
            rename_i s0 _
            exact ⟨Builtin.len_ #[t] ty #[.string s0], .int .i64 s0.size, _, w, st, wr, g, rfl, by simp [Builtin.len_, hd, goInt], I, .int _ _, h⟩
          · cases h
        · rename_i e hs
          rw [hs] at hsh
          simp only [ShOK] at hsh
          subst hsh
          split at h
          · cases h
          · rename_i hns
            obtain ⟨n, h, hv⟩ := lenOf_sound I.good.rel h H1
            rcases hv with ⟨aa, c, rfl⟩ | ⟨s0, rfl, _⟩
            · exact ⟨Builtin.len_ #[t] ty #[.slice aa n c], .int .i64 n, _, w, st, wr, g, rfl, by simp [Builtin.len_, hd, goInt], I, .int _ _, h⟩
            · cases H1 with
              | str => exact absurd rfl (hns _)
              | ref h1 => obtain ⟨_, _, _, h2, _⟩ := I.good.rel.slice_of h1; cases h2
              | sub h1 hl h2 => obtain ⟨_, _, h3⟩ := h2.one; cases h3
              | undef => simp [lenOf] at h
        · cases h
      · cases h
  · rename_i hb; cases hb
  · rename_i hb; cases hb
  · rename_i hb; cases hb
  · cases h
end

end Go.Abs

/- Soundness 32: min, max; calls of builtins. -/
namespace Go.Abs
section
variable {P : Program} {cfg : Cfg} {lv : Lev} {C : Ctx} {ts : List (List Value)} {w w' : World} {a : Act} {st : St} {wr : Wrs} {g : Gh} {c : St → R} {res : Res} {o : Oper} {slot : Nat}

theorem minmax_sound {mx : Bool} {h : Heap} : ∀ {l : List AV} {us : List Value} {u : Value} {av : AV} {k : AV → R}, minmax mx av l k = some res → VR w h g u av → VRs w h g us l →
    ∃ v av', (us.foldlM (match mx with | true => Builtin.max2 | false => Builtin.min2) u).run P w = .ok v w ∧ VR w h g v av' ∧ k av' = some res
  | [], _, u, av, k, hh, H, .nil => ⟨u, av, by simp, H, hh⟩
  | b :: l, _, u, av, k, hh, H, .cons H1 H2 => by
    unfold minmax at hh
    split at hh
    · rename_i heq; cases heq
    · rename_i kd x kd' y l' heq
      cases heq
      split at hh
      · rename_i hd
        simp only [decide_eq_true_eq] at hd
        subst hd
        cases H
        cases H1
        obtain ⟨v, av', h1, h2, h3⟩ := minmax_sound hh (.int _ _) H2
        refine ⟨v, av', ?_, h2, h3⟩
        rw [List.foldlM_cons]
        cases mx with
        | true =>
          have e : (Builtin.max2 (.int kd x) (.int kd y)).run P w = .ok (.int kd (max x y)) w := by
            simp only [Builtin.max2, Sem.run_pure]
            congr 2
            omega
          simp only [Sem.run_bind, e, Result.andThen_ok]
          exact h1
        | false =>
          have e : (Builtin.min2 (.int kd x) (.int kd y)).run P w = .ok (.int kd (min x y)) w := by
            simp only [Builtin.min2, Sem.run_pure]
            congr 2
            omega
          simp only [Sem.run_bind, e, Result.andThen_ok]
          exact h1
      · cases hh
    · cases hh

/-- a call of a builtin -/
theorem ev_builtin {cl : Call} {b : Builtin} {Q : Exit → Act → World → Prop} (ho : o.op = .call cl) (hb : cl.callee = .builtin b) (h : evOp cfg lv slot o st c = some res) (I : Inv C ts w a st wr g)
    (hB : ∀ (vals : List Value) (vs : List AV) (k : AV → St → R), builtinOp cfg slot b cl.argTypes.toList vs st k = some res → VRs w st.heap g vals vs → BOut P C ts w a b cl.argTypes vals.toArray k res) : o.wp P a w (Post C ts c res) Q := by
  simp only [evOp, ho, hb] at h
  obtain ⟨vs, h, H⟩ := opnds_sound I.good.env h
  obtain ⟨s, v, av, w', st', wr', g', h1, h2, I', H', h3⟩ := hB _ _ _ h H o.type (cl.args.map fun | .const _ => true | _ => false)
  have e1 : (cl.args.toList.map a.eval).toArray = cl.args.map a.eval := by rw [← Array.toList_map]
  rw [e1] at h1
  refine wp_value (s := s) (v := v) (w' := w') ?_ h2 (I'.put h3 H')
  have e2 : execOp a.eval o = builtin b cl.argTypes o.type (cl.args.map fun | .const _ => true | _ => false) (cl.args.map a.eval) := by
    simp only [execOp, ho, resolve, hb]
    rfl
  rw [e2]
  exact h1
end

end Go.Abs

/- Soundness 33: what is appended. -/
namespace Go.Abs
section
variable {P : Program} {cfg : Cfg} {lv : Lev} {C : Ctx} {ts : List (List Value)} {w w' : World} {a : Act} {st : St} {wr : Wrs} {g : Gh} {c : St → R} {res : Res} {o : Oper} {slot : Nat}

/-- the cells of a list, in a row -/
structure Cells (w : World) (own : Bool) (K : CS) (S : BS) (sz : Nat) (rows : Rows) (cells : List Value) (f : Nat → Nat → BS) : Prop where
  len : cells.length = rows.length * sz
  row : ∀ row ∈ rows, row.length = sz
  cell : ∀ (i j : Nat) (row : List AV) (a : AV), rows[i]? = some row → row[j]? = some a → TR w own K (f i j) (cells.getD (i * sz + j) default) a
  sub : ∀ i j k, f i j k → S k
  own : own = true → ∀ i j i' j' k, f i j k → f i' j' k → i = i' ∧ j = j'

theorem split_idx {q sz n : Nat} (h : q < n * sz) : q / sz < n ∧ q % sz < sz ∧ q = q / sz * sz + q % sz := by
  have hs : 0 < sz := by
    rcases Nat.eq_zero_or_pos sz with rfl | h'
    · simp at h
    · exact h'
  exact ⟨(Nat.div_lt_iff_lt_mul hs).2 h, Nat.mod_lt _ hs, (by rw [Nat.mul_comm]; exact (Nat.div_add_mod q sz).symm)⟩
theorem TR.src {own : Bool} {K : CS} {S : BS} {v : Value} {sz : Nat} {rows : Rows} {tx e' : TypeId} (T : TR w own K S v (.lst sz rows)) (hk : P.underlying tx = some (.slice e')) (hw : wholeRows rows = true) :
    ∃ cells f, Src P sz tx v rows.length cells w ∧ Cells w own K S sz rows cells f := by
  rcases T.lst_inv with ⟨rfl, aa, rfl⟩ | ⟨b, o, c, cs, e, fz, f, rfl, hb, hs, hc, hl, hK, hS, hf, hd, hcell⟩
  · refine ⟨[], fun _ _ _ => False, ?_, by simp, fun _ h => by simp at h, fun i j row av hr => by simp at hr, fun _ _ _ h => h.elim, fun _ _ _ _ _ _ h => h.elim⟩
    cases aa with
    | none => exact Src.ofNil w hk 0
    | some ad => exact Src.ofSlice w hk ad 0 0 [] (by simp) (fun j u hu => by simp at hu) (fun u hu => by simp at hu)
  · have hsz : o + rows.length * sz ≤ cs.size := by
      have : rows.length * sz ≤ c * sz := Nat.mul_le_mul_right _ hc
      omega
    have hget : ∀ q, q < rows.length * sz → ((cs.toList.drop o).take (rows.length * sz))[q]? = some (cs.getD (o + q) default) := by
      intro q hq
      rw [List.getElem?_take_of_lt hq, List.getElem?_drop]
      simp [Array.getD_eq_getD_getElem?, show o + q < cs.size by omega]
    have hlen : ((cs.toList.drop o).take (rows.length * sz)).length = rows.length * sz := by simp; omega
    refine ⟨(cs.toList.drop o).take (rows.length * sz), f, Src.ofSlice w hk ⟨b, o, none⟩ rows.length c _ hlen (fun j u hu => ?_) (fun u hu => ?_), hlen, hl, fun i j row av hr ha => ?_, hf, fun ho => (hd ho).2⟩
    · have hj : j < rows.length * sz := by rw [← hlen]; exact (List.getElem?_eq_some_iff.1 hu).1
      rw [hget j hj] at hu
      cases hu
      rw [Addr.add_eq, cell_of hb]
      simp [Array.getD_eq_getD_getElem?, show o + j < cs.size by omega]
    · obtain ⟨q, hq⟩ := List.mem_iff_getElem?.1 hu
      have hj : q < rows.length * sz := by rw [← hlen]; exact (List.getElem?_eq_some_iff.1 hq).1
      rw [hget q hj] at hq
      cases hq
      obtain ⟨h1, h2, h3⟩ := split_idx hj
      have hr : rows[q / sz]? = some rows[q / sz] := List.getElem?_eq_getElem h1
      have hrl := hl _ (mem_get hr)
      have ha : (rows[q / sz])[q % sz]? = some ((rows[q / sz])[q % sz]'(by rw [hrl]; exact h2)) := List.getElem?_eq_getElem _
      have ht := hcell _ _ _ _ hr ha
      rw [Nat.add_assoc, ← h3] at ht
      refine ht.one (fun e => ?_)
      have hx := List.all_eq_true.1 hw _ (mem_get hr)
      have hy := List.all_eq_true.1 hx _ (mem_get ha)
      rw [e] at hy
      simp [whole] at hy
    · have hi : i < rows.length := (List.getElem?_eq_some_iff.1 hr).1
      have hj : j < sz := by rw [← hl row (mem_get hr)]; exact (List.getElem?_eq_some_iff.1 ha).1
      have hq : i * sz + j < rows.length * sz := by
        have : (i + 1) * sz ≤ rows.length * sz := Nat.mul_le_mul_right _ (by omega)
        rw [Nat.succ_mul] at this
        omega
      have := hcell i j row av hr ha
      rw [List.getD_eq_getElem?_getD, hget _ hq]
      simpa [Nat.add_assoc] using this
end

end Go.Abs

/- Soundness 34: what is appended, evaluated. -/
namespace Go.Abs
section
variable {P : Program} {cfg : Cfg} {C : Ctx} {ts : List (List Value)} {tm : List Value} {w : World} {a : Act} {st : St} {wr : Wrs} {g : Gh} {res : Res}

theorem leafy_all {l : List AV} (h : leafy l = true) : ∀ a ∈ l, (∃ b, a = .bool b) ∨ (∃ k n, a = .int k n) ∨ ∃ s, a = .str s := by
  induction l with
  | nil => intro a ha; simp at ha
  | cons v l ih =>
    intro a ha
    cases v <;> simp only [leafy] at h <;> try (cases h; done)
    all_goals
      rcases List.mem_cons.1 ha with rfl | ha
      · first | exact .inl ⟨_, rfl⟩ | exact .inr (.inl ⟨_, _, rfl⟩) | exact .inr (.inr ⟨_, rfl⟩)
      · exact ih h a ha
theorem leafRows_all {rows : Rows} (h : leafRows rows = true) : ∀ row ∈ rows, ∀ a ∈ row, (∃ b, a = .bool b) ∨ (∃ k n, a = .int k n) ∨ ∃ s, a = .str s :=
  fun row hr => leafy_all (List.all_eq_true.1 h row hr)
theorem leafRows_sub {rows : Rows} (h : leafRows rows = true) (off len : Nat) : leafRows ((rows.drop off).take len) = true :=
  List.all_eq_true.2 fun row hr => List.all_eq_true.1 h row (List.mem_of_mem_drop (List.mem_of_mem_take hr))
theorem leafRows_whole {rows : Rows} (h : leafRows rows = true) : wholeRows rows = true :=
  List.all_eq_true.2 fun row hr => List.all_eq_true.2 fun a ha => by
    rcases leafRows_all h row hr a ha with ⟨_, rfl⟩ | ⟨_, _, rfl⟩ | ⟨_, rfl⟩ <;> rfl
theorem TR.leaf {own own' : Bool} {K K' : CS} {S S' : BS} {u : Value} {a : AV} (h : TR w own K S u a) (hl : (∃ b, a = .bool b) ∨ (∃ k n, a = .int k n) ∨ ∃ s, a = .str s) : TR w own' K' S' u a := by
  rcases hl with ⟨_, rfl⟩ | ⟨_, _, rfl⟩ | ⟨_, rfl⟩ <;> cases h <;> constructor
theorem Cells.leaf {own : Bool} {K : CS} {S : BS} {sz : Nat} {rows : Rows} {cells : List Value} {f : Nat → Nat → BS} (h : Cells w own K S sz rows cells f) (hl : leafRows rows = true) (K' : CS) :
    Cells w true K' (fun _ => False) sz rows cells (fun _ _ _ => False) :=
  ⟨h.len, h.row, fun i j row a hr ha => (h.cell i j row a hr ha).leaf (leafRows_all hl row (mem_get hr) a (mem_get ha)), fun _ _ _ h => h, fun _ _ _ _ _ _ h => h.elim⟩

/-- what is appended -/
structure News (P : Program) (w : World) (wr : Wrs) (ts : List (List Value)) (tm : List Value) (st : St) (g : Gh) (sz : Nat) (tx : TypeId) (v : Value) (news : Rows) (st1 : St) (g1 : Gh) (cells : List Value) (S : BS) (f : Nat → Nat → BS) : Prop where
  good : Good w wr ts tm st1 g1
  less : Less w st.heap g st1.heap g1
  src : Src P sz tx v news.length cells w
  cells : Cells w true (Kr w wr false) S sz news cells f
  apart : ∀ k, S k → k < w.heap.size ∧ ∀ r' x', st1.heap[r']?.join = some x' → ¬ g1.F r' k
theorem News.plain {sz : Nat} {tx : TypeId} {v : Value} {news : Rows} {cells : List Value} (G : Good w wr ts tm st g) (hs : Src P sz tx v news.length cells w) (hc : Cells w true (Kr w wr false) (fun _ => False) sz news cells (fun _ _ _ => False)) :
    News P w wr ts tm st g sz tx v news st g cells (fun _ => False) (fun _ _ _ => False) := ⟨G, .refl, hs, hc, fun _ h => h.elim⟩
theorem srcRows_sound {ei : TInfo} {tx e' : TypeId} {v : Value} {av : AV} {k : Rows → St → R} (hk : P.underlying tx = some (.slice e')) (hns : ∀ s, v ≠ .string s) (h : srcRows cfg ei av st k = some res) (G : Good w wr ts tm st g) (H : VR w st.heap g v av) :
    ∃ news st1 g1 cells S f, k news st1 = some res ∧ News P w wr ts tm st g ei.size tx v news st1 g1 cells S f := by
  have hnil : ∀ aa : Option Addr, Src P ei.size tx (.slice aa 0 0) 0 [] w := by
    intro aa
    cases aa with
    | none => exact Src.ofNil w hk 0
    | some ad => exact Src.ofSlice w hk ad 0 0 [] (by simp) (fun j u hu => by simp at hu) (fun u hu => by simp at hu)
  have cnil : Cells w true (Kr w wr false) (fun _ => False) ei.size [] [] (fun _ _ _ => False) := ⟨by simp, fun _ h => by simp at h, fun i j row av hr => by simp at hr, fun _ _ _ h => h, fun _ _ _ _ _ _ h => h.elim⟩
  -- a list that is there to be read
  have read : ∀ (r : Nat) (p : Path) (v0 : Value) (sz : Nat) (rows : Rows) (x : Root) (off len : Nat) (all : Bool), hwalk w st.heap g r p = some (v0, sz, rows) → st.heap[r]?.join = some x → ¬ (x.box = true ∧ p = []) → sz = ei.size → leafRows rows = true →
      ∃ own K S, TR w own K S v0 (.lst sz rows) := by
    intro r p v0 sz rows x off len _ hw hx hb _ _
    obtain ⟨x', hx', hr, hv⟩ := hwalk_res hw
    rw [hx] at hx'
    cases hx'
    obtain ⟨v', hw', hc⟩ := G.rel.walks hx hr hv
    rw [hw] at hw'
    cases hw'
    rcases hc with ⟨h1, h2⟩ | ⟨S, ht, _⟩
    · exact absurd ⟨h2, h1⟩ hb
    · exact ⟨_, _, _, ht⟩
  cases H <;> simp only [srcRows] at h <;> try (cases h; done)
  · exact absurd rfl (hns _)
  · exact ⟨[], st, g, [], _, _, h, .plain G (hnil none) cnil⟩
  · rename_i r p sz rows h1
    split at h
    · obtain ⟨x, sz', rows', hres, h⟩ := nav_inv h
      obtain ⟨x', hx', hr', _⟩ := hwalk_res h1
      simp only [Abs.res, hx', hr', Option.some.injEq, Prod.mk.injEq] at hres
      obtain ⟨rfl, rfl, rfl⟩ := hres
      split at h
      · rename_i hd
        simp only [decide_eq_true_eq] at hd
        have main : br (leafRows rows) (k rows st) none = some res → ¬ (x'.box = true ∧ p = []) → ∃ news st1 g1 cells S f, k news st1 = some res ∧ News P w wr ts tm st g ei.size tx v news st1 g1 cells S f := by
          intro h hb
          rcases br_inv h with ⟨hlf, h⟩ | ⟨_, h⟩
          · obtain ⟨own, K, S, ht⟩ := read r p v sz rows x' 0 0 true h1 hx' hb hd hlf
            obtain ⟨cells, f, hs, hc⟩ := ht.src hk (leafRows_whole hlf)
            have hc := hc.leaf hlf (Kr w wr false)
            rw [hd] at hs hc
            exact ⟨rows, st, g, cells, _, _, h, .plain G hs hc⟩
          · cases h
        split at h
        · cases h
        · rename_i hnb _ _
          exact main h (fun e => hnb e.1 e.2)
      · cases h
    · split at h
      · obtain ⟨v1, sz1, rows1, S, st1, g1, h, T⟩ := takeL_sound h G
        have hat := T.at_
        rw [h1] at hat
        cases hat
        split at h
        · rename_i hd
          simp only [decide_eq_true_eq] at hd
          rcases br_inv h with ⟨hwh, h⟩ | ⟨_, h⟩
          · obtain ⟨cells, f, hs, hc⟩ := T.tree.src hk hwh
            rw [hd] at hs hc
            exact ⟨_, st1, g1, cells, S, f, h, T.good, T.less, hs, hc, T.apart⟩
          · cases h
        · cases h
      · cases h
  · rename_i r p off len sz rows v0 h1 hl h2
    split at h
    · obtain ⟨x, sz', rows', hres, h⟩ := nav_inv h
      obtain ⟨x', hx', hr', _⟩ := hwalk_res h1
      simp only [Abs.res, hx', hr', Option.some.injEq, Prod.mk.injEq] at hres
      obtain ⟨rfl, rfl, rfl⟩ := hres
      split at h
      · rename_i hd
        simp only [decide_eq_true_eq] at hd
        have main : br (leafRows rows) (k ((rows.drop off).take len) st) none = some res → ¬ (x'.box = true ∧ p = []) → ∃ news st1 g1 cells S f, k news st1 = some res ∧ News P w wr ts tm st g ei.size tx v news st1 g1 cells S f := by
          intro h hb
          rcases br_inv h with ⟨hlf, h⟩ | ⟨_, h⟩
          · obtain ⟨own, K, S, ht⟩ := read r p v0 sz rows x' 0 0 true h1 hx' hb hd hlf
            have hlf' := leafRows_sub hlf off len
            obtain ⟨cells, f, hs, hc⟩ := (ht.sub hl h2).src hk (leafRows_whole hlf')
            have hc := hc.leaf hlf' (Kr w wr false)
            rw [hd] at hs hc
            exact ⟨_, st, g, cells, _, _, h, .plain G hs hc⟩
          · cases h
        split at h
        · cases h
        · rename_i hnb _ _
          exact main h (fun e => hnb e.1 e.2)
      · cases h
    · cases h
  · exact ⟨[], st, g, [], _, _, h, .plain G (hnil _) cnil⟩
end

end Go.Abs

/- Soundness 35: appended where there is room. -/
namespace Go.Abs

theorem setCells_heap {b : Nat} : ∀ (us : List Value) (o : Nat) (w : World) (cs : Array Value) (e : TypeId) (fz : Nat × Nat), w.heap[b]? = some (.cells cs e fz) →
    ∃ cs', (w.setCells b o us).heap[b]? = some (.cells cs' e fz) ∧ cs'.size = cs.size ∧ (∀ q, q < o ∨ o + us.length ≤ q → cs'.getD q default = cs.getD q default) ∧
      ∀ q, q < us.length → o + q < cs.size → cs'.getD (o + q) default = us.getD q default
  | [], o, w, cs, e, fz, h => ⟨cs, h, rfl, fun _ _ => rfl, fun q hq => by simp at hq⟩
  | u :: us, o, w, cs, e, fz, h => by
    obtain ⟨cs', h1, h2, h3, h4⟩ := setCells_heap us (o + 1) (w.setCell ⟨b, o, none⟩ u) _ e fz (setCell_heap h)
    refine ⟨cs', h1, by rw [h2]; simp, fun q hq => ?_, fun q hq hs => ?_⟩
    · simp only [List.length_cons] at hq
      rw [h3 q (by omega), cellSet (by omega)]
    · cases q with
      | zero =>
        rw [h3 (o + 0) (by omega)]
        simp only [Nat.add_zero] at hs ⊢
        rw [cellSet_self hs]
        simp
      | succ q =>
        have := h4 q (by simpa using hq) (by simp; omega)
        rw [show o + (q + 1) = o + 1 + q by omega, this]
        simp
theorem setCells_other {b k : Nat} (hk : k ≠ b) : ∀ (us : List Value) (o : Nat) (w : World), (w.setCells b o us).heap[k]? = w.heap[k]?
  | [], _, _ => rfl
  | u :: us, o, w => by rw [World.setCells, setCells_other hk us, setCell_other hk]

/-- there is room: the cells come behind -/
theorem TR.room {w : World} {K : CS} {S0 S : BS} {b o n c sz : Nat} {old news : Rows} {cells : List Value} {f : Nat → Nat → BS} (T : TR w true K S0 (.slice (some ⟨b, o, none⟩) n c) (.lst sz old)) (hpos : c ≠ 0)
    (D : Cells w true K S sz news cells f) (hap : ∀ k, S k → ¬ S0 k) (hr : n + news.length ≤ c) :
    S0 b ∧ (∀ q, q < cells.length → (w.cell? ⟨b, o + n * sz + q, none⟩).isSome = true ∧ K b (o + n * sz + q)) ∧
    TR (w.setCells b (o + n * sz) cells) true K (fun k => S0 k ∨ S k) (.slice (some ⟨b, o, none⟩) (n + news.length) c) (.lst sz (old ++ news)) := by
  rcases T.lst_inv with ⟨rfl, aa, hv⟩ | ⟨b', o', c', cs, e, fz, f0, hv, hb, hs, hc, hl, hK, hS, hf, hd, hcell⟩
  · cases hv
    exact absurd rfl hpos
  · simp only [Value.slice.injEq, Option.some.injEq, Addr.mk.injEq] at hv
    obtain ⟨⟨rfl, rfl, _⟩, rfl, rfl⟩ := hv
    obtain ⟨hd1, hd2⟩ := hd rfl
    have hm : old.length * sz + cells.length ≤ c * sz := by
      rw [D.len, ← Nat.add_mul]
      exact Nat.mul_le_mul_right _ hr
    obtain ⟨cs', h1, h2, h3, h4⟩ := setCells_heap cells (o + old.length * sz) w cs e fz hb
    refine ⟨hS, fun q hq => ⟨?_, hK.2 _ (by omega) (by omega)⟩, ?_⟩
    · rw [cell_of hb]
      have : o + old.length * sz + q < cs.size := by omega
      simp [this]
    · have hlen : (old ++ news).length = old.length + news.length := by simp
      have := TR.lst (w := w.setCells b (o + old.length * sz) cells) (own := true) (K := K) (S := fun k => S0 k ∨ S k) (b := b) (o := o) (c := c) (cs := cs') (e := e) (fz := fz) (sz := sz) (rows := old ++ news)
        (fun i j k => if i < old.length then f0 i j k else f (i - old.length) j k) h1 (by omega) (by omega)
        (fun row hr => by
          rcases List.mem_append.1 hr with hr | hr
          · exact hl row hr
          · exact D.row row hr) hK (.inl hS)
        (fun i j k hk => by
          split at hk
          · exact .inl (hf _ _ _ hk)
          · exact .inr (D.sub _ _ _ hk))
        (fun _ => by
          refine ⟨fun i j hk => ?_, fun i j i' j' k k1 k2 => ?_⟩
          · split at hk
            · exact hd1 _ _ hk
            · exact hap _ (D.sub _ _ _ hk) hS
          · split at k1 <;> split at k2
            · exact hd2 _ _ _ _ k k1 k2
            · exact absurd (hf _ _ _ k1) (hap _ (D.sub _ _ _ k2))
            · exact absurd (hf _ _ _ k2) (hap _ (D.sub _ _ _ k1))
            · have := D.own rfl _ _ _ _ k k1 k2
              omega)
        (fun i j row av hr ha => by
          have hother : ∀ k, k ≠ b → (w.setCells b (o + old.length * sz) cells).heap[k]? = w.heap[k]? := fun k hk => setCells_other hk _ _ _
          by_cases hi : i < old.length
          · rw [List.getElem?_append_left hi] at hr
            simp only [if_pos hi]
            have hj : j < sz := by rw [← hl row (mem_get hr)]; exact (List.getElem?_eq_some_iff.1 ha).1
            have hlt : i * sz + j < old.length * sz := by
              have : (i + 1) * sz ≤ old.length * sz := Nat.mul_le_mul_right _ (by omega)
              rw [Nat.succ_mul] at this
              omega
            rw [h3 _ (by omega)]
            exact (hcell i j row av hr ha).world (fun k hk => hother k (fun e => hd1 i j (e ▸ hk)))
          · rw [List.getElem?_append_right (by omega)] at hr
            simp only [if_neg hi]
            have hin : i - old.length < news.length := (List.getElem?_eq_some_iff.1 hr).1
            have hj : j < sz := by rw [← D.row row (mem_get hr)]; exact (List.getElem?_eq_some_iff.1 ha).1
            have hlt : (i - old.length) * sz + j < cells.length := by
              rw [D.len]
              have : (i - old.length + 1) * sz ≤ news.length * sz := Nat.mul_le_mul_right _ (by omega)
              rw [Nat.succ_mul] at this
              omega
            have e1 : o + i * sz + j = o + old.length * sz + ((i - old.length) * sz + j) := by
              have : i * sz = old.length * sz + (i - old.length) * sz := by rw [← Nat.add_mul]; congr 1; omega
              omega
            rw [e1, h4 _ hlt (by omega)]
            exact (D.cell _ j row av hr ha).world (fun k hk => hother k (fun e => hap _ (D.sub _ _ _ hk) (e ▸ hS))))
      rw [hlen] at this
      exact this

end Go.Abs

/- Soundness 36: what was there before an append that grows. -/
namespace Go.Abs
section
variable {P : Program} {w : World}

theorem TR.olds {own : Bool} {K : CS} {S : BS} {v : Value} {sz : Nat} {rows : Rows} (T : TR w own K S v (.lst sz rows)) :
    ∃ base c cells f, v = .slice base rows.length c ∧ (Builtin.firstCells sz rows.length (.slice base rows.length c)).run P w.drew = .ok cells.toArray w.drew ∧ Cells w own K S sz rows cells f := by
  rcases T.lst_inv with ⟨rfl, aa, rfl⟩ | ⟨b, o, c, cs, e, fz, f, rfl, hb, hs, hc, hl, hK, hS, hf, hd, hcell⟩
  · refine ⟨aa, 0, [], fun _ _ _ => False, rfl, ?_, by simp, fun _ h => by simp at h, fun i j row av hr => by simp at hr, fun _ _ _ h => h.elim, fun _ _ _ _ _ _ h => h.elim⟩
    cases aa with
    | none => exact run_firstCells_none w.drew sz 0 0 0
    | some ad => exact run_firstCells_some w.drew sz 0 ad 0 0 [] (by simp) (fun j u hu => by simp at hu)
  · have hsz : o + rows.length * sz ≤ cs.size := by
      have : rows.length * sz ≤ c * sz := Nat.mul_le_mul_right _ hc
      omega
    have hget : ∀ q, q < rows.length * sz → ((cs.toList.drop o).take (rows.length * sz))[q]? = some (cs.getD (o + q) default) := by
      intro q hq
      rw [List.getElem?_take_of_lt hq, List.getElem?_drop]
      simp [Array.getD_eq_getD_getElem?, show o + q < cs.size by omega]
    have hlen : ((cs.toList.drop o).take (rows.length * sz)).length = rows.length * sz := by simp; omega
    refine ⟨_, c, (cs.toList.drop o).take (rows.length * sz), f, rfl, run_firstCells_some w.drew sz rows.length ⟨b, o, none⟩ rows.length c _ hlen (fun j u hu => ?_), hlen, hl, fun i j row av hr ha => ?_, hf, fun ho => (hd ho).2⟩
    · have hj : j < rows.length * sz := by rw [← hlen]; exact (List.getElem?_eq_some_iff.1 hu).1
      rw [hget j hj] at hu
      cases hu
      rw [Addr.add_eq]
      have hb' : w.drew.heap[b]? = some (.cells cs e fz) := hb
      rw [cell_of hb']
      simp [Array.getD_eq_getD_getElem?, show o + j < cs.size by omega]
    · have hi : i < rows.length := (List.getElem?_eq_some_iff.1 hr).1
      have hj : j < sz := by rw [← hl row (mem_get hr)]; exact (List.getElem?_eq_some_iff.1 ha).1
      have hq : i * sz + j < rows.length * sz := by
        have : (i + 1) * sz ≤ rows.length * sz := Nat.mul_le_mul_right _ (by omega)
        rw [Nat.succ_mul] at this
        omega
      have := hcell i j row av hr ha
      rw [List.getD_eq_getElem?_getD, hget _ hq]
      simpa [Nat.add_assoc] using this
end

end Go.Abs

/- Soundness 37: cells joined; a new block of them. -/
namespace Go.Abs

theorem Cells.append {w : World} {K : CS} {S1 S2 : BS} {sz : Nat} {r1 r2 : Rows} {c1 c2 : List Value} {f1 f2 : Nat → Nat → BS} (A : Cells w true K S1 sz r1 c1 f1) (B : Cells w true K S2 sz r2 c2 f2) (hap : ∀ k, S1 k → ¬ S2 k) :
    Cells w true K (fun k => S1 k ∨ S2 k) sz (r1 ++ r2) (c1 ++ c2) (fun i j k => if i < r1.length then f1 i j k else f2 (i - r1.length) j k) := by
  refine ⟨by simp [A.len, B.len, Nat.add_mul], fun row hr => ?_, fun i j row av hr ha => ?_, fun i j k hk => ?_, fun _ i j i' j' k k1 k2 => ?_⟩
  · rcases List.mem_append.1 hr with hr | hr
    · exact A.row row hr
    · exact B.row row hr
  · by_cases hi : i < r1.length
    · rw [List.getElem?_append_left hi] at hr
      simp only [if_pos hi]
      have hj : j < sz := by rw [← A.row row (mem_get hr)]; exact (List.getElem?_eq_some_iff.1 ha).1
      have hlt : i * sz + j < c1.length := by
        rw [A.len]
        have : (i + 1) * sz ≤ r1.length * sz := Nat.mul_le_mul_right _ (by omega)
        rw [Nat.succ_mul] at this
        omega
      rw [List.getD_eq_getElem?_getD, List.getElem?_append_left hlt, ← List.getD_eq_getElem?_getD]
      exact A.cell i j row av hr ha
    · rw [List.getElem?_append_right (by omega)] at hr
      simp only [if_neg hi]
      have e1 : i * sz + j = c1.length + ((i - r1.length) * sz + j) := by
        rw [A.len]
        have : i * sz = r1.length * sz + (i - r1.length) * sz := by rw [← Nat.add_mul]; congr 1; omega
        omega
      rw [List.getD_eq_getElem?_getD, e1, List.getElem?_append_right (by omega), Nat.add_sub_cancel_left, ← List.getD_eq_getElem?_getD]
      exact B.cell _ j row av hr ha
  · split at hk
    · exact .inl (A.sub _ _ _ hk)
    · exact .inr (B.sub _ _ _ hk)
  · split at k1 <;> split at k2
    · exact A.own rfl _ _ _ _ k k1 k2
    · exact absurd (B.sub _ _ _ k2) (hap k (A.sub _ _ _ k1))
    · exact absurd (B.sub _ _ _ k1) (hap k (A.sub _ _ _ k2))
    · have := B.own rfl _ _ _ _ k k1 k2
      omega
theorem Cells.grid {w : World} {wr : Wrs} {h : Heap} {g : Gh} {S : BS} {sz : Nat} {rows : Rows} {cells : List Value} {f : Nat → Nat → BS} (A : Cells w true (Kr w wr false) S sz rows cells f)
    (hap : ∀ k, S k → k < w.heap.size ∧ ∀ r' x', h[r']?.join = some x' → ¬ g.F r' k) (z : Array Value) : Grid w wr h g false sz rows (cells.toArray ++ z) f := by
  refine ⟨A.row, fun i j row av hr ha => ?_, fun i j k hk => hap k (A.sub _ _ _ hk), fun i j i' j' k k1 k2 => A.own rfl _ _ _ _ k k1 k2⟩
  have hi : i < rows.length := (List.getElem?_eq_some_iff.1 hr).1
  have hj : j < sz := by rw [← A.row row (mem_get hr)]; exact (List.getElem?_eq_some_iff.1 ha).1
  have hlt : i * sz + j < cells.length := by
    rw [A.len]
    have : (i + 1) * sz ≤ rows.length * sz := Nat.mul_le_mul_right _ (by omega)
    rw [Nat.succ_mul] at this
    omega
  have e1 : (cells.toArray ++ z).getD (i * sz + j) default = cells.getD (i * sz + j) default := by
    simp only [Array.getD_eq_getD_getElem?, List.getD_eq_getElem?_getD]
    rw [Array.getElem?_append_left (by simpa using hlt)]
    simp
  rw [e1]
  have ht := A.cell i j row av hr ha
  exact ⟨fun _ => ht, fun hx => by rw [(kV1_TR 0 [] ht).2] at hx; cases hx⟩

end Go.Abs

/- Soundness 38: min and max as builtins. -/
namespace Go.Abs
section
variable {P : Program} {cfg : Cfg} {lv : Lev} {C : Ctx} {ts : List (List Value)} {w w' : World} {a : Act} {st : St} {wr : Wrs} {g : Gh} {res : Res} {slot : Nat}
theorem b_min {tys : Array TypeId} {vals : List Value} {vs : List AV} {k : AV → St → R} (h : builtinOp cfg slot .min tys.toList vs st k = some res) (I : Inv C ts w a st wr g) (H : VRs w st.heap g vals vs) :
    BOut P C ts w a .min tys vals.toArray k res := by
  intro ty consts
  cases H with
  | nil => simp [builtinOp] at h
  | cons H1 H2 =>
    simp only [builtinOp] at h
    obtain ⟨v, av, h1, h2, h3⟩ := minmax_sound (P := P) h H1 H2
    exact ⟨Builtin.min_ tys ty _, v, av, w, st, wr, g, rfl, by simpa [Builtin.min_] using h1, I, h2, h3⟩
theorem b_max {tys : Array TypeId} {vals : List Value} {vs : List AV} {k : AV → St → R} (h : builtinOp cfg slot .max tys.toList vs st k = some res) (I : Inv C ts w a st wr g) (H : VRs w st.heap g vals vs) :
    BOut P C ts w a .max tys vals.toArray k res := by
  intro ty consts
  cases H with
  | nil => simp [builtinOp] at h
  | cons H1 H2 =>
    simp only [builtinOp] at h
    obtain ⟨v, av, h1, h2, h3⟩ := minmax_sound (P := P) h H1 H2
    exact ⟨Builtin.max_ tys ty _, v, av, w, st, wr, g, rfl, by simpa [Builtin.max_] using h1, I, h2, h3⟩
end

end Go.Abs

/- Soundness 39: append. -/
namespace Go.Abs

theorem walk_heap {w w' : World} (hh : w'.heap = w.heap) : ∀ (p : Path) (v : Value) (sz : Nat) (rows : Rows), walk w' v sz rows p = walk w v sz rows p
  | [], _, _, _ => rfl
  | (i, j) :: p, v, sz, rows => by
    have hc : ∀ ad, w'.cell? ad = w.cell? ad := fun ad => by simp only [World.cell?, hh]
    simp only [walk, hc, walk_heap hh p]
theorem hwalk_heap {w w' : World} (hh : w'.heap = w.heap) (h : Heap) (g : Gh) (r : Nat) (p : Path) : hwalk w' h g r p = hwalk w h g r p := by
  unfold hwalk
  simp only [walk_heap hh]
theorem Rel.heap {w w' : World} {wr : Wrs} {h : Heap} {g : Gh} (hh : w'.heap = w.heap) (R : Rel w wr h g) : Rel w' wr h g := by
  have keeps : Keeps (fun _ _ => True) w h g w' h g := fun r p v sz rows _ hq => ⟨rows, (hwalk_heap hh h g r p).trans hq, rfl⟩
  have hn : h[h.length]?.join = none := by simp
  exact R.change (r := h.length) (X := none) (HRefs.all (fun _ _ => trivial) h) keeps (fun r' => by
    by_cases e : r' = h.length
    · subst e; rw [if_pos rfl]; exact hn
    · rw [if_neg e]) (by rw [hh]; exact Nat.le_refl _) (fun _ _ k _ _ _ => by rw [hh]) (fun _ _ => ⟨rfl, rfl, rfl⟩) (fun x hx => by cases hx) (fun x hx => by cases hx) (fun x hx => by cases hx)
theorem Good.heap {w w' : World} {wr : Wrs} {ts : List (List Value)} {tm : List Value} {st : St} {g : Gh} (hh : w'.heap = w.heap) (G : Good w wr ts tm st g) : Good w' wr ts tm st g :=
  G.keep (SRefs.all (fun _ _ => trivial) st) (fun r p _ _ rows _ hq => ⟨rows, (hwalk_heap hh _ _ r p).trans hq, rfl⟩) (G.rel.heap hh)
theorem Fr.drew {w0 : World} {wr0 : CS} {w : World} (F : Fr w0 wr0 w) : Fr w0 wr0 w.drew := ⟨F.os, F.tape, F.output, F.size, F.block, F.cells⟩

section
variable {P : Program} {cfg : Cfg} {lv : Lev} {C : Ctx} {ts : List (List Value)} {w w' : World} {a : Act} {st : St} {wr : Wrs} {g : Gh} {res : Res} {slot : Nat}

theorem Inv.drew (I : Inv C ts w a st wr g) : Inv C ts w.drew a st wr g := ⟨Good.heap (w := w) (w' := w.drew) rfl I.good, I.fr.drew, I.can, I.dom, I.nodef⟩
theorem TR.drew {own : Bool} {S : BS} {v : Value} {av : AV} (h : TR w own (Kr w wr false) S v av) : TR w.drew own (Kr w.drew wr false) S v av := h.same (fun _ _ => rfl)
theorem Cells.drew {S : BS} {sz : Nat} {rows : Rows} {cells : List Value} {f : Nat → Nat → BS} (h : Cells w true (Kr w wr false) S sz rows cells f) : Cells w.drew true (Kr w.drew wr false) S sz rows cells f :=
  ⟨h.len, h.row, fun i j row av hr ha => (h.cell i j row av hr ha).drew, h.sub, h.own⟩

theorem run_append_nothing (t tx ty e : TypeId) (i : TypeInfo) (ht : P.underlying t = some (.slice e)) (hi : P.info? e = some i) (aa : Option Addr) (x : Value) (hs : Src P i.size tx x 0 [] w) :
    (Builtin.append_ #[t, tx] ty #[.slice aa 0 0, x]).run P w = .ok (.slice aa 0 0) w := by
  have hc := hs.cells
  cases aa with
  | none => rcases hs.kind with ⟨e', hk⟩ | hk <;> simp [Builtin.append_, run_underlying ht, run_underlying hk, sizeOf, typeInfo, hi, hs.len, hc]
  | some ad => rcases hs.kind with ⟨e', hk⟩ | hk <;> simp [Builtin.append_, run_underlying ht, run_underlying hk, sizeOf, typeInfo, hi, hs.len, hc, storeCells]

/-- a tree in hand becomes a root -/
theorem Good.root {tm : List Value} (G : Good w wr ts tm st g) (hs : st.heap[slot]?.join = none) {S : BS} {v : Value} {sz : Nat} {rows : Rows} (T : TR w true (Kr w wr false) S v (.lst sz rows))
    (hap : ∀ k, S k → k < w.heap.size ∧ ∀ r x, st.heap[r]?.join = some x → ¬ g.F r k) :
    ∃ g', Good w wr ts tm ⟨st.env, st.stk, put st.heap slot (some ⟨false, false, false, sz, rows⟩)⟩ g' ∧ hwalk w (put st.heap slot (some ⟨false, false, false, sz, rows⟩)) g' slot [] = some (v, sz, rows) := by
  obtain ⟨h1, h2⟩ := G.new (w' := w) hs (Nat.le_refl _) (fun _ _ => rfl) ⟨false, false, false, sz, rows⟩ v [] S (fun k hk => (hap k hk).1) (fun r' x' k hx' _ hk => (hap k hk).2 r' x' hx') (fun _ => by
    unfold RootR
    simp only [gNew, if_true]
    exact T)
  refine ⟨_, h1, ?_⟩
  rw [hwalk_eq (x := ⟨false, false, false, sz, rows⟩) (by rw [put_get, if_pos rfl])]
  simp [walk, gNew]

/-- cells written where nobody of the roots looks -/
theorem Good.aside {w' : World} {tm : List Value} (G : Good w wr ts tm st g) (hsz : w'.heap.size = w.heap.size) (hw : ∀ k, (∃ r x, st.heap[r]?.join = some x ∧ g.F r k) → w'.heap[k]? = w.heap[k]?) : Good w' wr ts tm st g := by
  have keeps : Keeps (fun _ _ => True) w st.heap g w' st.heap g := fun r p v sz rows _ hq => ⟨rows, by
    rw [hwalk_same (wr := wr) (fun x hx => G.rel.root r x hx) rfl ⟨rfl, rfl⟩ (fun x k hx hF => hw k ⟨r, x, hx, hF⟩)]; exact hq, rfl⟩
  refine G.keep (SRefs.all (fun _ _ => trivial) st) keeps (G.rel.change (r := st.heap.length) (X := none) (HRefs.all (fun _ _ => trivial) _) keeps (fun r' => ?_) (by rw [hsz]; exact Nat.le_refl _) (fun r' x' k _ hx hF => hw k ⟨r', x', hx, hF⟩) (fun _ _ => ⟨rfl, rfl, rfl⟩)
    (fun x hx => by cases hx) (fun x hx => by cases hx) (fun x hx => by cases hx))
  by_cases e : r' = st.heap.length
  · subst e; rw [if_pos rfl]; simp
  · rw [if_neg e]
theorem setCells_size {b : Nat} : ∀ (us : List Value) (o : Nat) (w : World), (w.setCells b o us).heap.size = w.heap.size
  | [], _, _ => rfl
  | u :: us, o, w => by rw [World.setCells, setCells_size us]; simp [World.setCell]

theorem append_core {tm : List Value} {S1 S2 : BS} {t tx ty e : TypeId} {ei : TInfo} {v x : Value} {old news : Rows} {cells : List Value} {f : Nat → Nat → BS}
    (hT : TyOK P e ei) (ht : P.underlying t = some (.slice e)) (G : Good w wr ts tm st g) (hs : st.heap[slot]?.join = none) (hsrc : Src P ei.size tx x news.length cells w)
    (T : TR w true (Kr w wr false) S2 v (.lst ei.size old)) (D : Cells w true (Kr w wr false) S1 ei.size news cells f)
    (h1 : ∀ k, S1 k → k < w.heap.size ∧ ∀ r x, st.heap[r]?.join = some x → ¬ g.F r k) (h2 : ∀ k, S2 k → k < w.heap.size ∧ ∀ r x, st.heap[r]?.join = some x → ¬ g.F r k) (h12 : ∀ k, S1 k → ¬ S2 k)
    (hroom : (old.length + news.length) * ei.bytes ≤ roomB) (h63 : old.length + news.length ≤ 9223372036854775807) :
    ∃ v' w' wr' g', (Builtin.append_ #[t, tx] ty #[v, x]).run P w = .ok v' w' ∧ Good w' wr' ts tm ⟨st.env, st.stk, put st.heap slot (some ⟨false, false, false, ei.size, old ++ news⟩)⟩ g' ∧
      VR w' (put st.heap slot (some ⟨false, false, false, ei.size, old ++ news⟩)) g' v' (.ref slot []) ∧
      ((∃ b o, w' = w.setCells b o cells ∧ wr' = wr ∧ ∀ q, q < cells.length → wr b (o + q)) ∨ ∃ ob, w' = w.drew.alloc ob ∧ wr' = wrNew wr w.heap.size) := by
  obtain ⟨ii, z, hi1, hi2, hi3, hi4, hzc, _, _⟩ := hT.zeros
  obtain ⟨base, c, olds, f0, rfl, hold, hcells⟩ := T.olds
  rw [← hi2] at hsrc
  by_cases hr : old.length + news.length ≤ c
  · by_cases hc : c = 0
    · have e1 : old = [] := List.length_eq_zero_iff.1 (by omega)
      have e2 : news = [] := List.length_eq_zero_iff.1 (by omega)
      subst e1 e2 hc
      have e3 : cells = [] := List.length_eq_zero_iff.1 (by rw [D.len]; simp)
      subst e3
      obtain ⟨g', k1, k2⟩ := G.root hs T h2
      exact ⟨_, w, wr, g', run_append_nothing t tx ty e ii ht hi1 base x hsrc, k1, .ref k2, .inl ⟨0, 0, rfl, rfl, fun q hq => by simp at hq⟩⟩
    · have hb : ∃ b o, base = some ⟨b, o, none⟩ := by
        rcases T.lst_inv with ⟨_, aa, hv⟩ | ⟨b, o, c', _, _, _, _, hv, _⟩
        · simp only [Value.slice.injEq] at hv
          exact absurd hv.2.2 hc
        · simp only [Value.slice.injEq] at hv
          exact ⟨b, o, hv.1⟩
      obtain ⟨b, o, rfl⟩ := hb
      obtain ⟨hSb, hcan, T'⟩ := T.room hc D h12 hr
      have G' : Good (w.setCells b (o + old.length * ei.size) cells) wr ts tm st g := G.aside (setCells_size _ _ _) (fun k ⟨r, y, hy, hF⟩ => setCells_other (fun e => (h2 b hSb).2 r y hy (by subst e; exact hF)) _ _ _)
      have T'' : TR (w.setCells b (o + old.length * ei.size) cells) true (Kr (w.setCells b (o + old.length * ei.size) cells) wr false) (fun k => S2 k ∨ S1 k) (.slice (some ⟨b, o, none⟩) (old ++ news).length c) (.lst ei.size (old ++ news)) := by
        rw [List.length_append]
        refine T'.mono (fun _ h => h) (fun b' q _ hk => ⟨hk.1, ?_⟩)
        rw [World.frozen?_setCells]
        exact hk.2
      obtain ⟨g', k1, k2⟩ := G'.root hs T'' (fun k hk => by
        rw [setCells_size]
        rcases hk with hk | hk
        · exact h2 k hk
        · exact h1 k hk)
      rw [List.length_append] at k2
      refine ⟨_, _, wr, g', run_append_room_src w t tx ty e ii ht hi1 b o old.length c x news.length cells hsrc hr (fun j hj => by rw [hi2]; exact (hcan j hj).1) (fun j hj => by rw [hi2]; exact (hcan j hj).2.2), ?_⟩
      rw [hi2]
      exact ⟨k1, .ref k2, .inl ⟨b, _, rfl, rfl, fun q hq => (hcan q hq).2.1⟩⟩
  · have hfit : Builtin.nextslicecap (old.length + news.length) c * ii.bytes ≤ 281474976710656 := growslice_fits (by omega) (by rw [hi3]; exact hroom)
    rw [← hi2] at hold
    have hrun := run_append_grow_src w t tx ty e ii z ht hi1 hi4 base old.length c olds hold x news.length cells hsrc (by omega) (by omega) hfit
    have A := hcells.drew.append D.drew (fun k hk1 hk2 => h12 k hk2 hk1)
    have hcap : old.length + news.length ≤ grownCap w (old.length + news.length) c e := grownCap_ge w _ _ e
    have Gd := A.grid (h := st.heap) (g := g) (fun k hk => hk.elim (h2 k) (h1 k)) (Builtin.zeroCells z.cells (grownCap w (old.length + news.length) c e - (old.length + news.length)))
    have hzl : (Builtin.zeroCells z.cells (grownCap w (old.length + news.length) c e - (old.length + news.length))).size = (grownCap w (old.length + news.length) c e - (old.length + news.length)) * ei.size := by
      simp [Builtin.zeroCells, hzc]
    obtain ⟨g', k1, k2, _⟩ := (Good.heap (w := w) (w' := w.drew) rfl G).block (e := e) hs (grownCap w (old.length + news.length) c e) Gd (by simpa using hcap) (by
      rw [Array.size_append, hzl]
      simp only [List.size_toArray, List.length_append, hcells.len, D.len]
      rw [← Nat.add_mul, ← Nat.add_mul]
      exact Nat.mul_le_mul_right _ (by omega)) (fun h => by cases h) hT.pos
    rw [List.length_append] at k2
    exact ⟨_, _, wrNew wr w.heap.size, g', hrun, k1, .ref k2, .inr ⟨_, rfl, rfl⟩⟩

theorem Inv.setAside {st' : St} {g' : Gh} {b o : Nat} {us : List Value} (I : Inv C ts w a st wr g) (G : Good (w.setCells b o us) wr ts a.tmps.toList st' g') (hw : ∀ q, q < us.length → wr b (o + q)) : Inv C ts (w.setCells b o us) a st' wr g' := I.stored G hw
end
end Go.Abs

/- Soundness 40: append, evaluated. -/
namespace Go.Abs
section
variable {P : Program} {cfg : Cfg} {lv : Lev} {C : Ctx} {ts : List (List Value)} {w w' : World} {a : Act} {st : St} {wr : Wrs} {g : Gh} {res : Res} {slot : Nat}

theorem Src.kinds {size : Nat} {tx tx' : TypeId} {x : Value} {n : Nat} {news : List Value} (h : Src P size tx x n news w) (hk : (∃ e', P.underlying tx' = some (.slice e')) ∨ P.underlying tx' = some .string) : Src P size tx' x n news w :=
  ⟨hk, h.len, h.cells, h.cellsD, h.newsLen, h.one⟩
theorem posK_inv {n : Nat} {x : R} (h : posK n x = some res) : 0 < n ∧ x = some res := by
  cases n with
  | zero => simp [posK] at h
  | succ n => exact ⟨by omega, h⟩
theorem srcTy_inv {t : TypeId} {k : R} (hT : TysOK P cfg.ty) (h : srcTy cfg t k = some res) : ((∃ e', P.underlying t = some (.slice e')) ∨ P.underlying t = some .string) ∧ k = some res := by
  unfold srcTy at h
  obtain ⟨x, hx, h⟩ := tyK_inv h
  obtain ⟨d, hd, hs⟩ := (hT _ hx).under
  simp only at hd hs
  split at h
  · rename_i e he
    rw [he] at hs
    simp only [ShOK] at hs
    exact ⟨.inl ⟨e, by rw [hd, hs]⟩, h⟩
  · rename_i he
    rw [he] at hs
    simp only [ShOK] at hs
    exact ⟨.inr (by rw [hd, hs]), h⟩
  · cases h
theorem bytes_cells {K : CS} (s : ByteArray) : Cells w true K (fun _ => False) 1 (s.data.toList.map fun b => [AV.int .u8 b.toNat]) (byteCells s) (fun _ _ _ => False) := by
  refine ⟨by simp [byteCells], fun row hr => ?_, fun i j row av hr ha => ?_, fun _ _ _ h => h, fun _ _ _ _ _ _ h => h.elim⟩
  · obtain ⟨b, _, rfl⟩ := List.mem_map.1 hr
    rfl
  · rw [List.getElem?_map] at hr
    cases hb : s.data.toList[i]? with
    | none => simp [hb] at hr
    | some b =>
      simp only [hb, Option.map_some, Option.some.injEq] at hr
      subst hr
      cases j with
      | succ j => simp at ha
      | zero =>
        simp at ha
        subst ha
        have : (byteCells s).getD (i * 1 + 0) default = .int .u8 b.toNat := by
          simp only [byteCells, List.getD_eq_getElem?_getD, Nat.mul_one, Nat.add_zero, List.getElem?_map, hb]
          rfl
        rw [this]
        exact .int _ _
/-- what is appended, from a slice or a string -/
theorem srcRows_all {ei : TInfo} {t tx e : TypeId} {v : Value} {av : AV} {k : Rows → St → R} {tm : List Value} (ht : P.underlying t = some (.slice e)) (hk : (∃ e', P.underlying tx = some (.slice e')) ∨ P.underlying tx = some .string)
    (h : srcRows cfg ei av st k = some res) (G : Good w wr ts tm st g) (H : VR w st.heap g v av) :
    ∃ news st1 g1 cells S f, k news st1 = some res ∧ News P w wr ts tm st g ei.size tx v news st1 g1 cells S f := by
  by_cases hs : ∃ s, v = .string s
  · obtain ⟨s, rfl⟩ := hs
    have hav : av = .str s ∨ av = .undef := by
      cases H with
      | str => exact .inl rfl
      | undef => exact .inr rfl
      | ref h1 => obtain ⟨_, _, _, h2, _⟩ := G.rel.slice_of h1; cases h2
      | sub h1 hl h2 => obtain ⟨_, _, h3⟩ := h2.one; cases h3
    rcases hav with rfl | rfl
    · simp only [srcRows] at h
      split at h
      · rename_i hsz
        refine ⟨_, st, g, byteCells s, _, _, h, .plain G ?_ (by rw [hsz]; exact bytes_cells s)⟩
        rw [hsz, List.length_map, Array.length_toList]
        show Src P 1 tx (.string s) s.size (byteCells s) w
        exact ⟨hk, fun _ => rfl, firstCells_string s w, firstCells_string s w.drew, by rw [byteCells_length, Nat.mul_one], fun u hu => by
          obtain ⟨_, _, rfl⟩ := List.mem_map.1 hu
          rfl⟩
      · cases h
    · simp [srcRows] at h
  · obtain ⟨news, st1, g1, cells, S, f, h1, N⟩ := srcRows_sound (tx := t) ht (fun s e => hs ⟨s, e⟩) h G H
    exact ⟨news, st1, g1, cells, S, f, h1, N.good, N.less, Src.kinds N.src hk, N.cells, N.apart⟩

theorem b_append (hT : TysOK P cfg.ty) {tys : Array TypeId} {vals : List Value} {vs : List AV} {k : AV → St → R} (h : builtinOp cfg slot .append tys.toList vs st k = some res) (I : Inv C ts w a st wr g) (H : VRs w st.heap g vals vs) :
    BOut P C ts w a .append tys vals.toArray k res := by
  intro ty consts
  unfold builtinOp at h
  split at h
  · rename_i hb; cases hb
  · rename_i d s _
    cases H with
    | @cons vd _ _ _ Hd H2 =>
    cases H2 with
    | @cons vs' _ _ _ Hs H3 =>
    cases H3
    split at h
    · rename_i t tx htys
      have htys : tys = #[t, tx] := by rw [← Array.toList_inj]; simpa using htys
      subst htys
      unfold appendOp at h
      obtain ⟨ti, hti, h⟩ := tyK_inv h
      obtain ⟨du, hdu, hsh⟩ := (hT _ hti).under
      simp only at hdu hsh
      split at h
      · rename_i e he
        rw [he] at hsh
        simp only [ShOK] at hsh
        subst hsh
        obtain ⟨hk, h⟩ := srcTy_inv hT h
        obtain ⟨ei, hei, h⟩ := tyK_inv h
        obtain ⟨hbp, h⟩ := posK_inv h
        obtain ⟨news, st1, g1, cells, S1, f, h, N⟩ := srcRows_all hdu hk h I.good Hs
        have hEI := hT _ hei
        simp only at hEI
        -- what all ways come to
        have fin : ∀ (slot' : Nat) (old : Rows) (S2 : BS) (st2 : St) (g2 : Gh), Good w wr ts a.tmps.toList st2 g2 → st2.heap[slot']?.join = none → TR w true (Kr w wr false) S2 vd (.lst ei.size old) →
            (∀ k, S1 k → k < w.heap.size ∧ ∀ r x, st2.heap[r]?.join = some x → ¬ g2.F r k) → (∀ k, S2 k → k < w.heap.size ∧ ∀ r x, st2.heap[r]?.join = some x → ¬ g2.F r k) → (∀ k, S1 k → ¬ S2 k) →
            (old.length + news.length) * ei.bytes ≤ roomB → k (.ref slot' []) ⟨st2.env, st2.stk, put st2.heap slot' (some ⟨false, false, false, ei.size, old ++ news⟩)⟩ = some res →
            ∃ (s : Sem Value) (v : Value) (av : AV) (w' : World) (st' : St) (wr' : Wrs) (g' : Gh), builtin .append #[t, tx] ty consts [vd, vs'].toArray = (do pure (.value (← s))) ∧ s.run P w = .ok v w' ∧ Inv C ts w' a st' wr' g' ∧ VR w' st'.heap g' v av ∧ k av st' = some res := by
          intro slot' old S2 st2 g2 G2 hs2 T h1 h2 h12 hroom hk
          have h63 : old.length + news.length ≤ 9223372036854775807 := by
            have : (old.length + news.length) * 1 ≤ (old.length + news.length) * ei.bytes := Nat.mul_le_mul_left _ (by omega)
            unfold roomB at hroom
            omega
          obtain ⟨v', w', wr', g', e1, e2, e3, e4⟩ := append_core hEI hdu G2 hs2 N.src T N.cells h1 h2 h12 hroom h63
          refine ⟨Builtin.append_ #[t, tx] ty #[vd, vs'], v', _, w', _, wr', g', rfl, e1, ?_, e3, hk⟩
          rcases e4 with ⟨b, o, rfl, rfl, hw⟩ | ⟨ob, rfl, rfl⟩
          · exact I.stored e2 hw
          · have I2 : Inv C ts w.drew a st2 wr g2 := ⟨Good.heap (w := w) (w' := w.drew) rfl G2, I.fr.drew, I.can, I.dom, I.nodef⟩
            exact I2.alloc e2
        -- the first operand has a place
        have atPlace : ∀ (r : Nat) (p : Path), (d = .ref r p ∨ ∃ off len, d = .sub r p off len) →
            (takeL st1 r p fun sz rows st => match decide (sz = ei.size) with
              | true => br (decide (((isCut d rows).length + news.length) * ei.bytes ≤ roomB)) (match p with
                | [] => newRoot st r ⟨false, false, false, sz, isCut d rows ++ news⟩ fun st => k (.ref r []) st
                | _ => newRoot st slot ⟨false, false, false, sz, isCut d rows ++ news⟩ fun st => k (.ref slot []) st) none
              | false => none) = some res →
            ∃ (s : Sem Value) (v : Value) (av : AV) (w' : World) (st' : St) (wr' : Wrs) (g' : Gh), builtin .append #[t, tx] ty consts [vd, vs'].toArray = (do pure (.value (← s))) ∧ s.run P w = .ok v w' ∧ Inv C ts w' a st' wr' g' ∧ VR w' st'.heap g' v av ∧ k av st' = some res := by
          intro r p hd h
          obtain ⟨v, sz, rows, S2, st2, g2, h, T⟩ := takeL_sound h N.good
          obtain ⟨rows0, hb0, hlen0⟩ := N.less.back _ _ _ _ _ T.at_
          have tree : TR w true (Kr w wr false) S2 vd (.lst sz (isCut d rows)) := by
            rcases hd with rfl | ⟨off, len, rfl⟩
            · cases Hd with
              | ref h1 =>
                rw [hb0] at h1
                cases h1
                exact T.tree
            · cases Hd with
              | sub h1 hl h2 =>
                rw [hb0] at h1
                cases h1
                exact T.tree.sub (by omega) h2
          split at h
          · rename_i hd2
            simp only [decide_eq_true_eq] at hd2
            subst hd2
            rcases br_inv h with ⟨hroom, h⟩ | ⟨_, h⟩
            · simp only [decide_eq_true_eq] at hroom
              have a1 : ∀ k, S1 k → k < w.heap.size ∧ ∀ r x, st2.heap[r]?.join = some x → ¬ g2.F r k := fun k hk => ⟨(N.apart k hk).1, fun r' x' hx' hF => by
                obtain ⟨x1, hx1, _, _, _, hf⟩ := T.less.flags r' x' hx'
                exact (N.apart k hk).2 r' x1 hx1 (hf k hF)⟩
              have a12 : ∀ k, S1 k → ¬ S2 k := fun k hk1 hk2 => by
                obtain ⟨x1, hx1, _, hf⟩ := T.was
                exact (N.apart k hk1).2 r x1 hx1 (hf k hk2)
              split at h
              · obtain ⟨hs2, h⟩ := newRoot_inv h
                exact fin r _ S2 st2 g2 T.good hs2 tree a1 T.apart a12 hroom h
              · obtain ⟨hs2, h⟩ := newRoot_inv h
                exact fin slot _ S2 st2 g2 T.good hs2 tree a1 T.apart a12 hroom h
            · cases h
          · cases h
        have atNil : (∃ aa, vd = .slice aa 0 0) → (br (decide (news.length * ei.bytes ≤ roomB)) (newRoot st1 slot ⟨false, false, false, ei.size, news⟩ fun st => k (.ref slot []) st) none) = some res →
            ∃ (s : Sem Value) (v : Value) (av : AV) (w' : World) (st' : St) (wr' : Wrs) (g' : Gh), builtin .append #[t, tx] ty consts [vd, vs'].toArray = (do pure (.value (← s))) ∧ s.run P w = .ok v w' ∧ Inv C ts w' a st' wr' g' ∧ VR w' st'.heap g' v av ∧ k av st' = some res := by
          rintro ⟨aa, rfl⟩ h
          rcases br_inv h with ⟨hroom, h⟩ | ⟨_, h⟩
          · simp only [decide_eq_true_eq] at hroom
            obtain ⟨hs2, h⟩ := newRoot_inv h
            exact fin slot [] (fun _ => False) st1 g1 N.good hs2 .nil N.apart (fun _ h => h.elim) (fun _ _ h => h) (by simpa using hroom) h
          · cases h
        cases d <;> simp only [dstAt] at h <;> try (cases h; done)
        · cases Hd
          exact atNil ⟨_, rfl⟩ h
        · exact atPlace _ _ (.inl rfl) h
        · exact atPlace _ _ (.inr ⟨_, _, rfl⟩) h
        · split at h
          · cases Hd
            exact atNil ⟨_, rfl⟩ h
          · cases h
      · cases h
    · cases h
  · rename_i hb; cases hb
  · rename_i hb; cases hb
  · cases h
end
end Go.Abs

/- Soundness 41: what goes into a call, what comes out of it. -/
namespace Go.Abs

theorem get_lt {w : World} {b : Nat} {o : Obj} (h : w.heap[b]? = some o) : b < w.heap.size := (Array.getElem?_eq_some_iff.1 h).1
/-- a tree that is only read, over the blocks that there are -/
theorem TR.low {w : World} {own : Bool} {K : CS} {S : BS} {v : Value} {a : AV} (h : TR w own K S v a) : TR w false K (fun k => S k ∧ k < w.heap.size) v a := by
  induction h with
  | bool b => exact .bool b
  | int k n => exact .int k n
  | str s => exact .str s
  | nilp => exact .nilp
  | nilf => exact .nilf
  | undef v => exact .undef v
  | nil => exact .nil
  | lst f hb hs hc hl hK0 hS0 hf hd _ ih =>
    exact .lst (fun i j k => f i j k ∧ k < _) hb hs hc hl hK0 ⟨hS0, get_lt hb⟩ (fun i j k hk => ⟨hf i j k hk.1, hk.2⟩) (fun h => by cases h) ih
/-- of one's own blocks, those that hold cells that are known -/
theorem TR.trim {w : World} {own : Bool} {K : CS} {S : BS} {v : Value} {a : AV} (h : TR w own K S v a) : TR w own K (fun k => S k ∧ k < w.heap.size ∧ ∃ q, K k q) v a := by
  induction h with
  | bool b => exact .bool b
  | int k n => exact .int k n
  | str s => exact .str s
  | nilp => exact .nilp
  | nilf => exact .nilf
  | undef v => exact .undef v
  | nil => exact .nil
  | lst f hb hs hc hl hK0 hS0 hf hd _ ih =>
    exact .lst (fun i j k => f i j k ∧ k < _ ∧ ∃ q, _) hb hs hc hl hK0 ⟨hS0, get_lt hb, _, hK0.2 _ (Nat.le_refl _) (by have := hK0.1; omega)⟩ (fun i j k hk => ⟨hf i j k hk.1, hk.2⟩)
      (fun h => ⟨fun i j hk => (hd h).1 i j hk.1, fun i j i' j' k h1 h2 => (hd h).2 i j i' j' k h1.1 h2.1⟩) ih

def Leaf (w : World) (K : CS) (v : Value) (a : AV) : Prop := TR w false K (fun k => k < w.heap.size) v a
theorem TR.leafOf {w : World} {own : Bool} {K : CS} {S : BS} {v : Value} {a : AV} (h : TR w own K S v a) : Leaf w K v a := h.low.mono (fun _ h => h.2) (fun _ _ _ h => h)
theorem Leaf.mono {w : World} {K K' : CS} {v : Value} {a : AV} (h : Leaf w K v a) (hK : ∀ b q, K b q → K' b q) : Leaf w K' v a := TR.mono h (fun _ h => h) (fun b q _ => hK b q)

inductive Leaves (w : World) (K : CS) : List Value → List AV → Prop
  | nil : Leaves w K [] []
  | cons {v : Value} {a : AV} {vs : List Value} {l : List AV} (h1 : Leaf w K v a) (h2 : Leaves w K vs l) : Leaves w K (v :: vs) (a :: l)
theorem Leaves.mono {w : World} {K K' : CS} (hK : ∀ b q, K b q → K' b q) : ∀ {vs : List Value} {l : List AV}, Leaves w K vs l → Leaves w K' vs l
  | _, _, .nil => .nil
  | _, _, .cons h1 h2 => .cons (h1.mono hK) (Leaves.mono hK h2)
theorem Leaves.length {w : World} {K : CS} : ∀ {vs : List Value} {l : List AV}, Leaves w K vs l → vs.length = l.length
  | _, _, .nil => rfl
  | _, _, .cons _ h2 => by simp [Leaves.length h2]
/-- a value that is handed over: a leaf or a list, or a pointer with what is behind it -/
inductive PV (w : World) (K : CS) : Value → AV → Prop
  | leaf {v : Value} {a : AV} (h : Leaf w K v a) : PV w K v a
  | pv {b o : Nat} {cs : Array Value} {e : TypeId} {fz : Nat × Nat} {vs : List Value} {l : List AV} (hb : w.heap[b]? = some (.cells cs e fz)) (hs : o + l.length ≤ cs.size) (hK : ∀ q, q < l.length → K b (o + q))
      (hv : ∀ q v, vs[q]? = some v → cs[o + q]? = some v) (hl : Leaves w K vs l) : PV w K (.pointer (some ⟨b, o, none⟩)) (.pv l)
inductive PVs (w : World) (K : CS) : List Value → List AV → Prop
  | nil : PVs w K [] []
  | cons {v : Value} {a : AV} {vs : List Value} {l : List AV} (h1 : PV w K v a) (h2 : PVs w K vs l) : PVs w K (v :: vs) (a :: l)
inductive AR (w : World) (K : CS) : Value → AV → Prop
  | pv {v : Value} {a : AV} (h : PV w K v a) : AR w K v a
  | agg {vs : List Value} {l : List AV} (h : Leaves w K vs l) : AR w K (.agg vs.toArray) (.agg l)
  | fn {f : FuncId} {vs : List Value} {l : List AV} (h : PVs w K vs l) : AR w K (.func (.func f) #[] vs.toArray) (.fn f l)
inductive ARs (w : World) (K : CS) : List Value → List AV → Prop
  | nil : ARs w K [] []
  | cons {v : Value} {a : AV} {vs : List Value} {l : List AV} (h1 : AR w K v a) (h2 : ARs w K vs l) : ARs w K (v :: vs) (a :: l)
theorem ARs.append {w : World} {K : CS} : ∀ {vs us : List Value} {l m : List AV}, ARs w K vs l → ARs w K us m → ARs w K (vs ++ us) (l ++ m)
  | _, _, _, _, .nil, h2 => h2
  | _, _, _, _, .cons h1 h3, h2 => .cons h1 (ARs.append h3 h2)
theorem PVs.args {w : World} {K : CS} : ∀ {vs : List Value} {l : List AV}, PVs w K vs l → ARs w K vs l
  | _, _, .nil => .nil
  | _, _, .cons h1 h2 => .cons (.pv h1) (PVs.args h2)

/-- what comes back: trees, none of which has a block of another if they are one's own -/
inductive T0s (w : World) (own : Bool) (K : CS) : List Value → List AV → List BS → Prop
  | nil : T0s w own K [] [] []
  | cons {v : Value} {a : AV} {S : BS} {vs : List Value} {l : List AV} {Ss : List BS} (h1 : TR w own K S v a) (h2 : own = true → ∀ S' ∈ Ss, ∀ k, S k → ¬ S' k) (h3 : T0s w own K vs l Ss) : T0s w own K (v :: vs) (a :: l) (S :: Ss)
inductive T1 (w : World) (own : Bool) (K : CS) : Value → AV → List BS → Prop
  | one {v : Value} {a : AV} {S : BS} (h : TR w own K S v a) : T1 w own K v a [S]
  | agg {vs : List Value} {l : List AV} {Ss : List BS} (h : T0s w own K vs l Ss) : T1 w own K (.agg vs.toArray) (.agg l) Ss
inductive T1s (w : World) (own : Bool) (K : CS) : List Value → List AV → List BS → Prop
  | nil : T1s w own K [] [] []
  | cons {v : Value} {a : AV} {vs : List Value} {l : List AV} {S1 Ss : List BS} (h1 : T1 w own K v a S1) (h2 : own = true → ∀ S ∈ S1, ∀ S' ∈ Ss, ∀ k, S k → ¬ S' k) (h3 : T1s w own K vs l Ss) : T1s w own K (v :: vs) (a :: l) (S1 ++ Ss)
inductive T2 (w : World) (own : Bool) (K : CS) : Value → AV → List BS → Prop
  | one {v : Value} {a : AV} {Ss : List BS} (h : T1 w own K v a Ss) : T2 w own K v a Ss
  | tup {vs : List Value} {l : List AV} {Ss : List BS} (h : T1s w own K vs l Ss) : T2 w own K (.tuple vs.toArray) (.tup l) Ss

/-- what comes back from a call on closed values -/
def PRes (w w' : World) (v : Value) (a : AV) : Prop :=
  ∃ Ss, T2 w' true (fun b q => w.heap.size ≤ b ∧ w'.frozen? ⟨b, q, none⟩ = false) v a Ss ∧ ∀ S ∈ Ss, ∀ k, S k → w.heap.size ≤ k ∧ k < w'.heap.size
def Any : CS := fun _ _ => True
def Quiet : CS := fun _ _ => False
def FnOK (P : Program) (f : FuncId) : Prop := ∃ fn, P.funcs[f]? = some fn ∧ (fn.name == "runtime.NumGoroutine") = false ∧ fn.body.isNone = false
def PureOK (P : Program) (E : Env) (cfg : Cfg) (pure : FuncId → List AV → R) : Prop := ∀ (f : FuncId) (args : List AV) (res : Res), cfg.mode f = 0 → pure f args = some res → FnOK P f ∧
  ∀ (w : World) (vals : List Value), E.J w → E.N ≤ w.heap.size → ARs w Any vals args → Calls P f vals.toArray w fun e w' => ∃ v, e = .returned v ∧ Fr w Quiet w' ∧ PRes w w' v res.val
def InlOK (P : Program) (E : Env) (inl : FuncId → List AV → St → (AV → St → R) → R) : Prop := ∀ (f : FuncId) (args : List AV) (st : St) (k : AV → St → R) (res : Res), inl f args st k = some res → FnOK P f ∧
  ∀ (C : Ctx) (ts : List (List Value)) (w : World) (a : Act) (wr : Wrs) (g : Gh) (vals : List Value), C.E = E → Inv C ts w a st wr g → VRs w st.heap g vals args →
    Calls P f vals.toArray w fun e w' => ∃ v av st' wr' g', e = .returned v ∧ Inv C ts w' a st' wr' g' ∧ VR w' st'.heap g' v av ∧ k av st' = some res
structure LevOK (P : Program) (E : Env) (cfg : Cfg) (lv : Lev) : Prop where
  pure : PureOK P E cfg lv.pure
  inl : InlOK P E lv.inl

theorem run_callFunc {P : Program} {f : FuncId} (h : FnOK P f) (args : Array Value) (w : World) : (callFunc f args).run P w = .ok (.enter f args) w := by
  obtain ⟨fn, h1, h2, h3⟩ := h
  unfold callFunc
  simp only [Sem.run_bind, run_program, Result.andThen_ok, h1, h2, h3]
  rfl
end Go.Abs

/- Soundness 42: arguments are closed. -/
namespace Go.Abs
section
variable {P : Program} {cfg : Cfg} {w : World} {wr : Wrs} {hp : Heap} {g : Gh} {res : Res}

theorem VR.closed (RL : Rel w wr hp g) {esz : Nat} {v : Value} {a : AV} {k : AV → R} (h : cl0 hp esz a k = some res) (H : VR w hp g v a) : ∃ a', k a' = some res ∧ Leaf w Any v a' := by
  have lst : ∀ (r : Nat) (p : Path) (x : Root) (v0 : Value) (sz : Nat) (rows : Rows), hwalk w hp g r p = some (v0, sz, rows) → hp[r]?.join = some x → ¬ (x.box = true ∧ p = []) → Leaf w Any v0 (.lst sz rows) ∧ ∃ S K, TR w (!x.ro) K S v0 (.lst sz rows) := by
    intro r p x v0 sz rows hw hx hn
    obtain ⟨x', hx', hr, hv⟩ := hwalk_res hw
    rw [hx] at hx'
    cases hx'
    obtain ⟨v', hw', hc⟩ := RL.walks hx hr hv
    rw [hw] at hw'
    cases hw'
    rcases hc with ⟨h1, h2⟩ | ⟨S, ht, _⟩
    · exact absurd ⟨h2, h1⟩ hn
    · exact ⟨ht.leafOf.mono (fun _ _ _ => trivial), _, _, ht⟩
  cases H <;> simp only [cl0] at h <;> try (cases h; done)
  · exact ⟨_, h, TR.bool _⟩
  · exact ⟨_, h, TR.int _ _⟩
  · exact ⟨_, h, TR.str _⟩
  · exact ⟨_, h, TR.nilp⟩
  · exact ⟨_, h, TR.nilf⟩
  · exact ⟨_, h, TR.nil⟩
  · rename_i r p sz rows h1
    obtain ⟨x, sz', rows', hres, h⟩ := nav_inv h
    obtain ⟨x', hx', hr', _⟩ := hwalk_res h1
    simp only [Abs.res, hx', hr', Option.some.injEq, Prod.mk.injEq] at hres
    obtain ⟨rfl, rfl, rfl⟩ := hres
    have main : ¬ (x'.box = true ∧ p = []) → k (.lst sz rows) = some res → ∃ a', k a' = some res ∧ Leaf w Any v a' := fun hn h => ⟨_, h, (lst r p x' v _ _ h1 hx' hn).1⟩
    split at h
    · cases h
    · rename_i hn _ _
      exact main (fun e => hn e.1 e.2) h
  · rename_i r p off len sz rows v0 h1 hl h2
    obtain ⟨x, sz', rows', hres, h⟩ := nav_inv h
    obtain ⟨x', hx', hr', _⟩ := hwalk_res h1
    simp only [Abs.res, hx', hr', Option.some.injEq, Prod.mk.injEq] at hres
    obtain ⟨rfl, rfl, rfl⟩ := hres
    have main : ¬ (x'.box = true ∧ p = []) → k (.lst sz ((rows.drop off).take len)) = some res → ∃ a', k a' = some res ∧ Leaf w Any v a' := fun hn h => ⟨_, h, TR.sub (lst r p x' v0 _ _ h1 hx' hn).1 hl h2⟩
    split at h
    · cases h
    · rename_i hn _ _
      exact main (fun e => hn e.1 e.2) h
  · exact ⟨_, h, TR.nil⟩
theorem VRs.closed (RL : Rel w wr hp g) {esz : Nat} : ∀ {vs : List Value} {l : List AV} {k : List AV → R}, clL0 hp esz l k = some res → VRs w hp g vs l → ∃ l', k l' = some res ∧ Leaves w Any vs l'
  | _, _, k, h, .nil => ⟨[], h, .nil⟩
  | _, _, k, h, .cons h1 h2 => by
    simp only [clL0] at h
    obtain ⟨a', h, e1⟩ := VR.closed RL h h1
    obtain ⟨l', h, e2⟩ := VRs.closed RL h h2
    exact ⟨_, h, .cons e1 e2⟩
/-- the cells of a row, closed -/
theorem cells_closed (RL : Rel w wr hp g) {r : Nat} {p : Path} {b o n c sz : Nat} {rows : Rows} {i : Nat} {row : List AV} (hw : hwalk w hp g r p = some (.slice (some ⟨b, o, none⟩) n c, sz, rows)) (hi : rows[i]? = some row) :
    ∀ (l : List AV) (j : Nat) (k : List AV → R), clL0 hp 0 l k = some res → (∀ q a, l[q]? = some a → row[j + q]? = some a) →
    ∃ us l', k l' = some res ∧ us.length = l.length ∧ (∀ q u, us[q]? = some u → w.cell? ⟨b, o + i * sz + j + q, none⟩ = some u) ∧ Leaves w Any us l'
  | [], j, k, h, _ => ⟨[], [], h, rfl, fun q u hu => by simp at hu, .nil⟩
  | a :: l, j, k, h, hl => by
    simp only [clL0] at h
    obtain ⟨b', o', n', c', u, hv, hu, _, hcase⟩ := RL.cell hw hi (hl 0 a rfl)
    simp only [Value.slice.injEq, Option.some.injEq, Addr.mk.injEq] at hv
    obtain ⟨⟨rfl, rfl, _⟩, rfl, rfl⟩ := hv
    have one : ∃ a', (clL0 hp 0 l fun l => k (a' :: l)) = some res ∧ Leaf w Any u a' := by
      rcases hcase with ⟨sz', rows', rfl, hw'⟩ | ⟨_, hv⟩
      · refine ⟨_, h, ?_⟩
        obtain ⟨x', hx', hr, hvv⟩ := hwalk_res hw'
        obtain ⟨v', hw2, hc⟩ := RL.walks hx' hr hvv
        rw [hw'] at hw2
        cases hw2
        rcases hc with ⟨h1, _⟩ | ⟨S, ht, _⟩
        · simp at h1
        · exact ht.leafOf.mono (fun _ _ _ => trivial)
      · exact VR.closed RL h hv
    obtain ⟨a', h, e1⟩ := one
    obtain ⟨us, l', h, e2, e3, e4⟩ := cells_closed RL hw hi l (j + 1) _ h (fun q a ha => by rw [show j + 1 + q = j + (q + 1) by omega]; exact hl (q + 1) a (by simpa using ha))
    refine ⟨u :: us, a' :: l', h, by simp [e2], fun q u' hu' => ?_, .cons e1 e4⟩
    cases q with
    | zero => simp at hu'; subst hu'; exact hu
    | succ q =>
      have := e3 q u' (by simpa using hu')
      rwa [show o + i * sz + j + (q + 1) = o + i * sz + (j + 1) + q by omega]
theorem cell_heap {b q : Nat} {u : Value} (h : w.cell? ⟨b, q, none⟩ = some u) : ∃ cs e fz, w.heap[b]? = some (.cells cs e fz) ∧ cs[q]? = some u := by
  simp only [World.cell?] at h
  split at h
  · rename_i cs e fz hb
    exact ⟨cs, e, fz, hb, h⟩
  · cases h
theorem clP_sound (RL : Rel w wr hp g) {n : Nat} {v : Value} {a : AV} {k : AV → R} (h : clP hp n a k = some res) (H : VR w hp g v a) : ∃ a', k a' = some res ∧ PV w Any v a' := by
  cases H <;> simp only [clP] at h <;> try (cases h; done)
  · exact ⟨_, h, .leaf TR.nilp⟩
  · rename_i r p i j sz rows b o n' c' h1
    split at h
    · cases h
    · rename_i n
      obtain ⟨x, sz', rows', hres, h⟩ := nav_inv h
      obtain ⟨x', hx', hr', _⟩ := hwalk_res h1
      simp only [Abs.res, hx', hr', Option.some.injEq, Prod.mk.injEq] at hres
      obtain ⟨rfl, rfl, rfl⟩ := hres
      obtain ⟨row, hi, h⟩ := getRow_inv h
      obtain ⟨hj, h⟩ := dropK_inv h
      obtain ⟨hn, h⟩ := cut_inv h
      obtain ⟨us, l', h, e2, e3, e4⟩ := cells_closed RL h1 hi _ j _ h (fun q a ha => by
        rw [List.getElem?_take] at ha
        split at ha
        · rw [List.getElem?_drop] at ha
          exact ha
        · cases ha)
      refine ⟨_, h, ?_⟩
      have hlen : us.length = n + 1 := by rw [e2]; simp at hn ⊢; omega
      have hl' : l'.length = n + 1 := by rw [← e4.length]; exact hlen
      have h0 : us[0]? = some us[0] := List.getElem?_eq_getElem _
      obtain ⟨cs, e, fz, hb, _⟩ := cell_heap (e3 0 _ h0)
      have hcs : ∀ q v, us[q]? = some v → cs[o + i * sz + j + q]? = some v := fun q v hv => by
        have := e3 q v hv
        rwa [cell_of hb] at this
      have hlast := hcs n us[n] (List.getElem?_eq_getElem _)
      have := (Array.getElem?_eq_some_iff.1 hlast).1
      exact .pv hb (by omega) (fun _ _ => trivial) hcs e4
theorem clC_sound (RL : Rel w wr hp g) : ∀ {vs : List Value} {l : List AV} {k : List AV → R}, clC hp l k = some res → VRs w hp g vs l → ∃ l', k l' = some res ∧ PVs w Any vs l'
  | _, [], k, h, .nil => ⟨[], h, .nil⟩
  | _, a :: l, k, h, .cons h1 h2 => by
    by_cases hp0 : ∃ r p i j, a = .ptr r p i j
    · obtain ⟨r, p, i, j, rfl⟩ := hp0
      simp only [clC] at h
      split at h
      · obtain ⟨_, _, _, _, h⟩ := nav_inv h
        obtain ⟨a', h, e1⟩ := clP_sound RL h h1
        obtain ⟨l', h, e2⟩ := clC_sound RL h h2
        exact ⟨_, h, .cons e1 e2⟩
      · cases h
    · have h : (cl0 hp 0 a fun v => clC hp l fun l => k (v :: l)) = some res := by
        cases a <;> first | exact h | exact absurd ⟨_, _, _, _, rfl⟩ hp0
      obtain ⟨a', h, e1⟩ := VR.closed RL h h1
      obtain ⟨l', h, e2⟩ := clC_sound RL h h2
      exact ⟨_, h, .cons (.leaf e1) e2⟩
theorem cl1_sound (RL : Rel w wr hp g) {t : TypeId} {v : Value} {a : AV} {k : AV → R} (h : cl1 cfg hp t a k = some res) (H : VR w hp g v a) : ∃ a', k a' = some res ∧ AR w Any v a' := by
  have plain : (elemSz cfg t fun esz => cl0 hp esz a k) = some res → ∃ a', k a' = some res ∧ AR w Any v a' := by
    intro h
    obtain ⟨esz, h⟩ := elemSz_inv h
    obtain ⟨a', h, e1⟩ := VR.closed RL h H
    exact ⟨a', h, .pv (.leaf e1)⟩
  cases H with
  | agg h1 =>
    simp only [cl1] at h
    obtain ⟨l', h, e⟩ := VRs.closed RL h h1
    exact ⟨_, h, .agg e⟩
  | fn h1 =>
    simp only [cl1] at h
    obtain ⟨l', h, e⟩ := clC_sound RL h h1
    exact ⟨_, h, .fn e⟩
  | ptr h1 =>
    simp only [cl1] at h
    obtain ⟨x, _, h⟩ := tyK_inv h
    split at h
    · obtain ⟨y, _, h⟩ := tyK_inv h
      obtain ⟨a', h, e1⟩ := clP_sound RL h (.ptr h1)
      exact ⟨_, h, .pv e1⟩
    · cases h
  | _ => exact plain h
theorem clArgs_sound (RL : Rel w wr hp g) : ∀ {ts : List TypeId} {vs : List Value} {l : List AV} {k : List AV → R}, clArgs cfg hp ts l k = some res → VRs w hp g vs l → ∃ l', k l' = some res ∧ ARs w Any vs l'
  | [], _, _, k, h, .nil => ⟨[], h, .nil⟩
  | [], _, _, k, h, .cons _ _ => by simp [clArgs] at h
  | t :: ts, _, _, k, h, .nil => by simp [clArgs] at h
  | t :: ts, _, _, k, h, .cons h1 h2 => by
    simp only [clArgs] at h
    obtain ⟨a', h, e1⟩ := cl1_sound RL h h1
    obtain ⟨l', h, e2⟩ := clArgs_sound RL h h2
    exact ⟨_, h, .cons e1 e2⟩
end
end Go.Abs

/- Soundness 43: what a call handed back gets names. -/
namespace Go.Abs
section
variable {w : World} {res : Res}

inductive TRs (w : World) (own : Bool) (K : CS) : List Value → List AV → List BS → Prop
  | nil : TRs w own K [] [] []
  | cons {v : Value} {a : AV} {S : BS} {vs : List Value} {l : List AV} {Ss : List BS} (h1 : TR w own K S v a) (h2 : TRs w own K vs l Ss) : TRs w own K (v :: vs) (a :: l) (S :: Ss)
theorem TRs.append {own : Bool} {K : CS} : ∀ {vs us : List Value} {l m : List AV} {Ss Rs : List BS}, TRs w own K vs l Ss → TRs w own K us m Rs → TRs w own K (vs ++ us) (l ++ m) (Ss ++ Rs)
  | _, _, _, _, _, _, .nil, h2 => h2
  | _, _, _, _, _, _, .cons h1 h3, h2 => .cons h1 (TRs.append h3 h2)
theorem TRs.get {own : Bool} {K : CS} : ∀ {vs : List Value} {l : List AV} {Ss : List BS} {j : Nat} {a : AV} {v : Value}, TRs w own K vs l Ss → l[j]? = some a → vs[j]? = some v → ∃ S, Ss[j]? = some S ∧ TR w own K S v a
  | _, _, _, 0, _, _, .cons h1 _, ha, hv => by simp at ha hv; subst ha hv; exact ⟨_, rfl, h1⟩
  | _, _, _, j + 1, _, _, .cons _ h2, ha, hv => by
    obtain ⟨S, e1, e2⟩ := TRs.get (j := j) h2 (by simpa using ha) (by simpa using hv)
    exact ⟨S, by simpa using e1, e2⟩
  | _, _, _, 0, _, _, .nil, ha, _ => by simp at ha
  | _, _, _, j + 1, _, _, .nil, ha, _ => by simp at ha
theorem TRs.len {own : Bool} {K : CS} : ∀ {vs : List Value} {l : List AV} {Ss : List BS}, TRs w own K vs l Ss → vs.length = l.length ∧ Ss.length = l.length
  | _, _, _, .nil => ⟨rfl, rfl⟩
  | _, _, _, .cons _ h2 => by have := TRs.len h2; simp [this.1, this.2]
def Aparts (Ss : List BS) : Prop := Ss.Pairwise fun S S' => ∀ k, S k → ¬ S' k

theorem T0s.aparts {K : CS} : ∀ {vs : List Value} {l : List AV} {Ss : List BS}, T0s w true K vs l Ss → Aparts Ss
  | _, _, _, .nil => List.Pairwise.nil
  | _, _, _, .cons _ h2 h3 => List.Pairwise.cons (h2 rfl) (T0s.aparts h3)
theorem T1.aparts {K : CS} {v : Value} {a : AV} {Ss : List BS} (h : T1 w true K v a Ss) : Aparts Ss := by
  cases h with
  | one => exact List.pairwise_singleton _ _
  | agg h => exact h.aparts
theorem T1s.aparts {K : CS} : ∀ {vs : List Value} {l : List AV} {Ss : List BS}, T1s w true K vs l Ss → Aparts Ss
  | _, _, _, .nil => List.Pairwise.nil
  | _, _, _, .cons h1 h2 h3 => List.pairwise_append.2 ⟨h1.aparts, T1s.aparts h3, fun S hS S' hS' => h2 rfl S hS S' hS'⟩
theorem T2.aparts {K : CS} {v : Value} {a : AV} {Ss : List BS} (h : T2 w true K v a Ss) : Aparts Ss := by
  cases h with
  | one h => exact h.aparts
  | tup h => exact h.aparts

/-- a name that is good once the row lies in its root -/
def Nm (slot : Nat) (row : List AV) (G : List Value) (v : Value) (av : AV) : Prop := ∀ (w : World) (h : Heap) (g : Gh) (row' : List AV) (G' : List Value), row <+: row' → G <+: G' →
  (row ≠ [] → (∃ ro box sz, h[slot]?.join = some ⟨ro, true, box, sz, [row']⟩) ∧ g.G slot = G') → VR w h g v av
inductive Nms (slot : Nat) (row : List AV) (G : List Value) : List Value → List AV → Prop
  | nil : Nms slot row G [] []
  | cons {v : Value} {a : AV} {vs : List Value} {l : List AV} (h1 : Nm slot row G v a) (h2 : Nms slot row G vs l) : Nms slot row G (v :: vs) (a :: l)
theorem Nm.more {slot : Nat} {row rX : List AV} {G gX : List Value} {v : Value} {av : AV} (h : Nm slot row G v av) : Nm slot (row ++ rX) (G ++ gX) v av :=
  fun w hh g row' G' h1 h2 h3 => h w hh g row' G' ((List.prefix_append _ _).trans h1) ((List.prefix_append _ _).trans h2) (fun hn => h3 (by simp [hn]))
theorem Nms.more {slot : Nat} {row rX : List AV} {G gX : List Value} : ∀ {vs : List Value} {l : List AV}, Nms slot row G vs l → Nms slot (row ++ rX) (G ++ gX) vs l
  | _, _, .nil => .nil
  | _, _, .cons h1 h2 => .cons h1.more (Nms.more h2)
theorem Nms.vrs {slot : Nat} {row row' : List AV} {G G' : List Value} {h : Heap} {g : Gh} (h1 : row <+: row') (h2 : G <+: G') (h3 : row ≠ [] → (∃ ro box sz, h[slot]?.join = some ⟨ro, true, box, sz, [row']⟩) ∧ g.G slot = G') :
    ∀ {vs : List Value} {l : List AV}, Nms slot row G vs l → VRs w h g vs l
  | _, _, .nil => .nil
  | _, _, .cons e1 e2 => .cons (e1 w h g row' G' h1 h2 h3) (Nms.vrs h1 h2 h3 e2)
theorem addK_inv {l : List AV} {v : AV} {k : Nat → List AV → R} (h : addK l v k = some res) : k l.length (l ++ [v]) = some res := by
  induction l generalizing k with
  | nil => exact h
  | cons a l ih => simpa using ih h

structure Op (w : World) (own : Bool) (K : CS) (slot : Nat) (row : List AV) (Ss : List BS) (rX : List AV) (gX : List Value) (SX : List BS) : Prop where
  trees : TRs w own K gX rX SX
  sub : SX.Sublist Ss
theorem op0_sound {own : Bool} {K : CS} {S : BS} {slot : Nat} {v : Value} {a : AV} {row : List AV} {k : AV → List AV → R} (h : op0 slot a row k = some res) (T : TR w own K S v a) :
    ∃ av rX gX SX, k av (row ++ rX) = some res ∧ Op w own K slot row [S] rX gX SX ∧ ∀ G : List Value, G.length = row.length → Nm slot (row ++ rX) (G ++ gX) v av := by
  have leaf : ∀ a', a' = a → (∀ sz rows, a ≠ .lst sz rows) → k a' row = some res → ∃ av rX gX SX, k av (row ++ rX) = some res ∧ Op w own K slot row [S] rX gX SX ∧ ∀ G : List Value, G.length = row.length → Nm slot (row ++ rX) (G ++ gX) v av := by
    rintro a' rfl hn h
    exact ⟨a', [], [], [], by simpa using h, ⟨.nil, by simp⟩, fun G _ w' hh g row' G' _ _ _ => T.leafVR w' hh g hn⟩
  cases a <;> simp only [op0] at h <;> try (cases h; done)
  case lst sz rows =>
    have h := addK_inv h
    refine ⟨_, [.lst sz rows], [v], [S], h, ⟨.cons T .nil, List.Sublist.refl _⟩, fun G hG w' hh g row' G' h1 h2 h3 => ?_⟩
    obtain ⟨⟨ro, box, sz0, hr⟩, hg⟩ := h3 (by simp)
    have e1 : row'[row.length]? = some (.lst sz rows) := by
      obtain ⟨t, rfl⟩ := h1
      simp [List.getElem?_append]
    have e2 : G'[row.length]? = some v := by
      obtain ⟨t, rfl⟩ := h2
      rw [← hG]
      simp [List.getElem?_append]
    refine .ref (sz := sz) (rows := rows) ?_
    rw [hwalk_eq hr]
    simp only [vwalk, List.getElem?_cons_zero, e1, hg, e2, walk]
  all_goals exact leaf _ rfl (fun _ _ e => by cases e) h
theorem opL0_sound {own : Bool} {K : CS} {slot : Nat} : ∀ {vs : List Value} {l : List AV} {Ss : List BS} {row : List AV} {k : List AV → List AV → R}, opL0 slot l row k = some res → T0s w own K vs l Ss →
    ∃ avs rX gX SX, k avs (row ++ rX) = some res ∧ Op w own K slot row Ss rX gX SX ∧ ∀ G : List Value, G.length = row.length → Nms slot (row ++ rX) (G ++ gX) vs avs
  | _, _, _, row, k, h, .nil => ⟨[], [], [], [], by simpa [opL0] using h, ⟨.nil, List.Sublist.refl _⟩, fun _ _ => .nil⟩
  | _, _, _, row, k, h, .cons h1 _ h3 => by
    simp only [opL0] at h
    obtain ⟨av, rX, gX, SX, h, O1, n1⟩ := op0_sound h h1
    obtain ⟨avs, rY, gY, SY, h, O2, n2⟩ := opL0_sound h h3
    refine ⟨av :: avs, rX ++ rY, gX ++ gY, SX ++ SY, by simpa [List.append_assoc] using h, ⟨O1.trees.append O2.trees, by simpa using O1.sub.append O2.sub⟩, fun G hG => ?_⟩
    have hl := O1.trees.len.1
    rw [← List.append_assoc, ← List.append_assoc]
    exact .cons (n1 G hG).more (n2 (G ++ gX) (by simp [hG, hl]))
theorem op1_sound {own : Bool} {K : CS} {slot : Nat} {v : Value} {a : AV} {Ss : List BS} {row : List AV} {k : AV → List AV → R} (h : op1 slot a row k = some res) (T : T1 w own K v a Ss) :
    ∃ av rX gX SX, k av (row ++ rX) = some res ∧ Op w own K slot row Ss rX gX SX ∧ ∀ G : List Value, G.length = row.length → Nm slot (row ++ rX) (G ++ gX) v av := by
  cases T with
  | one T =>
    have h : op0 slot a row k = some res := by cases T <;> exact h
    exact op0_sound h T
  | agg T =>
    simp only [op1] at h
    obtain ⟨avs, rX, gX, SX, h, O, n⟩ := opL0_sound h T
    exact ⟨_, rX, gX, SX, h, O, fun G hG w' hh g row' G' h1 h2 h3 => .agg (Nms.vrs h1 h2 h3 (n G hG))⟩
theorem opL1_sound {own : Bool} {K : CS} {slot : Nat} : ∀ {vs : List Value} {l : List AV} {Ss : List BS} {row : List AV} {k : List AV → List AV → R}, opL1 slot l row k = some res → T1s w own K vs l Ss →
    ∃ avs rX gX SX, k avs (row ++ rX) = some res ∧ Op w own K slot row Ss rX gX SX ∧ ∀ G : List Value, G.length = row.length → Nms slot (row ++ rX) (G ++ gX) vs avs
  | _, _, _, row, k, h, .nil => ⟨[], [], [], [], by simpa [opL1] using h, ⟨.nil, List.Sublist.refl _⟩, fun _ _ => .nil⟩
  | _, _, _, row, k, h, .cons h1 _ h3 => by
    simp only [opL1] at h
    obtain ⟨av, rX, gX, SX, h, O1, n1⟩ := op1_sound h h1
    obtain ⟨avs, rY, gY, SY, h, O2, n2⟩ := opL1_sound h h3
    refine ⟨av :: avs, rX ++ rY, gX ++ gY, SX ++ SY, by simpa [List.append_assoc] using h, ⟨O1.trees.append O2.trees, O1.sub.append O2.sub⟩, fun G hG => ?_⟩
    have hl := O1.trees.len.1
    rw [← List.append_assoc, ← List.append_assoc]
    exact .cons (n1 G hG).more (n2 (G ++ gX) (by simp [hG, hl]))
theorem op2_sound {own : Bool} {K : CS} {slot : Nat} {v : Value} {a : AV} {Ss : List BS} {row : List AV} {k : AV → List AV → R} (h : op2 slot a row k = some res) (T : T2 w own K v a Ss) :
    ∃ av rX gX SX, k av (row ++ rX) = some res ∧ Op w own K slot row Ss rX gX SX ∧ ∀ G : List Value, G.length = row.length → Nm slot (row ++ rX) (G ++ gX) v av := by
  cases T with
  | one T =>
    have h : op1 slot a row k = some res := by
      cases T with
      | one T => cases T <;> exact h
      | agg T => exact h
    exact op1_sound h T
  | tup T =>
    simp only [op2] at h
    obtain ⟨avs, rX, gX, SX, h, O, n⟩ := opL1_sound h T
    exact ⟨_, rX, gX, SX, h, O, fun G hG w' hh g row' G' h1 h2 h3 => .tup (Nms.vrs h1 h2 h3 (n G hG))⟩

def wrUp (wr : Wrs) (n : Nat) : Wrs := ⟨fun b q => wr b q ∨ n ≤ b, wr.dom⟩
theorem wrUp_agree (wr : Wrs) (n : Nat) : wr.Agree n (wrUp wr n) := ⟨rfl, fun b q hb => ⟨fun h => h.resolve_right (by omega), fun h => .inl h⟩⟩
theorem Good.grow {w w' : World} {wr : Wrs} {ts : List (List Value)} {tm : List Value} {st : St} {g : Gh} (G : Good w wr ts tm st g) (hsz : w.heap.size ≤ w'.heap.size) (hw : ∀ k, k < w.heap.size → w'.heap[k]? = w.heap[k]?) : Good w' wr ts tm st g := by
  have hw' : ∀ r x k, st.heap[r]?.join = some x → g.F r k → w'.heap[k]? = w.heap[k]? := fun r x k hx hF => hw k (G.rel.low r x k hx hF)
  have keeps : Keeps (fun _ _ => True) w st.heap g w' st.heap g := fun r p v sz rows _ hq => ⟨rows, by
    rw [hwalk_same (wr := wr) (fun x hx => G.rel.root r x hx) rfl ⟨rfl, rfl⟩ (fun x k hx hF => hw' r x k hx hF)]; exact hq, rfl⟩
  refine G.keep (SRefs.all (fun _ _ => trivial) st) keeps (G.rel.change (r := st.heap.length) (X := none) (HRefs.all (fun _ _ => trivial) _) keeps (fun r' => ?_) hsz (fun r' x' k _ hx hF => hw' r' x' k hx hF) (fun _ _ => ⟨rfl, rfl, rfl⟩)
    (fun x hx => by cases hx) (fun x hx => by cases hx) (fun x hx => by cases hx))
  by_cases e : r' = st.heap.length
  · subst e; rw [if_pos rfl]; simp
  · rw [if_neg e]
theorem Fr.trans {w0 w1 w2 : World} {wr0 : CS} (A : Fr w0 wr0 w1) (B : Fr w1 Quiet w2) : Fr w0 wr0 w2 := by
  refine ⟨B.os.trans A.os, B.tape.trans A.tape, B.output.trans A.output, Nat.le_trans A.size B.size, fun b hb hn => ?_, fun b cs e fz hb => ?_⟩
  · rw [B.block b (Nat.lt_of_lt_of_le hb A.size) (fun _ h => h)]
    exact A.block b hb hn
  · obtain ⟨cs1, h1, h2, h3⟩ := A.cells b cs e fz hb
    obtain ⟨cs2, h4, h5, h6⟩ := B.cells b cs1 e fz h1
    exact ⟨cs2, h4, h5.trans h2, fun q hq => (h6 q (fun h => h)).trans (h3 q hq)⟩
end
section
variable {C : Ctx} {ts : List (List Value)} {w w' : World} {a : Act} {st : St} {wr : Wrs} {g : Gh} {res : Res} {slot : Nat}
theorem Inv.after (I : Inv C ts w a st wr g) (F : Fr w Quiet w') : Inv C ts w' a st (wrUp wr w.heap.size) g :=
  ⟨(I.good.wr (wrUp_agree wr _)).grow F.size (fun k hk => F.block k hk (fun _ h => h)), I.fr.trans F, fun b q hw hb => by
    rcases hw with hw | hw
    · exact I.can b q hw hb
    · have := I.fr.size; omega, I.dom, I.nodef⟩
theorem opened_sound {own : Bool} {lent : List AV} {v : Value} {av : AV} {k : AV → St → R} (h : opened slot own lent av st k = some res) (I : Inv C ts w a st wr g) (F : Fr w Quiet w') (T : PRes w w' v av) :
    ∃ av' st' wr' g', k av' st' = some res ∧ Inv C ts w' a st' wr' g' ∧ VR w' st'.heap g' v av' := by
  obtain ⟨Ss, T, hSs⟩ := T
  unfold opened at h
  obtain ⟨av', rX, gX, SX, h, O, n⟩ := op2_sound h T
  have I' := I.after F
  simp only [List.nil_append] at h
  have n := n [] rfl
  simp only [List.nil_append] at n
  cases rX with
  | nil => exact ⟨_, st, _, g, h, I', n w' st.heap g [] gX (List.prefix_refl _) (List.prefix_refl _) (fun h => absurd rfl h)⟩
  | cons a0 row =>
    simp only at h
    cases own with
    | false => cases h
    | true =>
      simp only at h
      obtain ⟨hs, h⟩ := newRoot_inv h
      have hsub : ∀ S ∈ SX, ∀ k, S k → w.heap.size ≤ k ∧ k < w'.heap.size := fun S hS => hSs S (O.sub.subset hS)
      have hap : Aparts SX := T.aparts.sublist O.sub
      obtain ⟨h1, h2⟩ := I'.good.new (w' := w') hs (Nat.le_refl _) (fun _ _ => rfl) ⟨false, true, true, 0, [a0 :: row]⟩ Go.undef gX (fun k => ∃ S ∈ SX, S k)
        (fun k ⟨S, hS, hk⟩ => (hsub S hS k hk).2)
        (fun r' x' k hx' _ ⟨S, hS, hk⟩ hF => by
          have := I.good.rel.low r' x' k hx' hF
          have := (hsub S hS k hk).1
          omega)
        (fun _ => by
          unfold RootR
          simp only
          refine ⟨a0 :: row, fOf SX, rfl, by simp only [gNew, if_true]; exact O.trees.len.1, fun j k ⟨S, hj, hk⟩ => ?_, fun _ j j' k ⟨S, hj, hk⟩ ⟨S', hj', hk'⟩ => ?_, fun j a v ha hv => ?_⟩
          · simp only [gNew, if_true]
            exact ⟨S, List.mem_of_getElem? hj, hk⟩
          · obtain ⟨hl, e⟩ := List.getElem?_eq_some_iff.1 hj
            obtain ⟨hl', e'⟩ := List.getElem?_eq_some_iff.1 hj'
            rcases Nat.lt_trichotomy j j' with hlt | heq | hgt
            · have := (List.pairwise_iff_getElem.1 hap) j j' hl hl' hlt k (by rw [e]; exact hk)
              rw [e'] at this
              exact absurd hk' this
            · exact heq
            · have := (List.pairwise_iff_getElem.1 hap) j' j hl' hl hgt k (by rw [e']; exact hk')
              rw [e] at this
              exact absurd hk this
          · simp only [gNew, if_true] at hv
            obtain ⟨S, e1, e2⟩ := O.trees.get ha hv
            exact e2.mono (fun k hk => ⟨S, e1, hk⟩) (fun b q hb hk => ⟨.inr hk.1, hk.2⟩))
      refine ⟨av', _, _, _, h, ⟨h1, I'.fr, I'.can, I'.dom, I'.nodef⟩, n w' _ _ (a0 :: row) gX (List.prefix_refl _) (List.prefix_refl _) (fun _ => ⟨⟨false, true, 0, ?_⟩, ?_⟩)⟩
      · rw [put_get, if_pos rfl]
      · simp [gNew]
end
end Go.Abs

/- Soundness 44: what is one's own is handed over. -/
namespace Go.Abs
section
variable {w : World} {wr : Wrs} {ts : List (List Value)} {tm : List Value} {st : St} {g : Gh} {res : Res}

structure Tk (w : World) (wr : Wrs) (ts : List (List Value)) (tm : List Value) (st : St) (g : Gh) (Ss : List BS) (st' : St) (g' : Gh) : Prop where
  good : Good w wr ts tm st' g'
  less : Less w st.heap g st'.heap g'
  apart : ∀ S ∈ Ss, ∀ k, S k → k < w.heap.size ∧ ∀ r x, st'.heap[r]?.join = some x → ¬ g'.F r k
  was : ∀ S ∈ Ss, ∀ k, S k → ∃ r x, st.heap[r]?.join = some x ∧ g.F r k
theorem Tk.none (G : Good w wr ts tm st g) : Tk w wr ts tm st g [] st g := ⟨G, .refl, fun _ h => by simp at h, fun _ h => by simp at h⟩
theorem Tk.leaf (G : Good w wr ts tm st g) : Tk w wr ts tm st g [fun _ => False] st g := ⟨G, .refl, fun S h k hk => by simp at h; subst h; exact hk.elim, fun S h k hk => by simp at h; subst h; exact hk.elim⟩
theorem Tk.trans {st1 st2 : St} {g1 g2 : Gh} {S1 S2 : List BS} (A : Tk w wr ts tm st g S1 st1 g1) (B : Tk w wr ts tm st1 g1 S2 st2 g2) : Tk w wr ts tm st g (S1 ++ S2) st2 g2 ∧ ∀ S ∈ S1, ∀ S' ∈ S2, ∀ k, S k → ¬ S' k := by
  refine ⟨⟨B.good, A.less.trans B.less, fun S hS k hk => ?_, fun S hS k hk => ?_⟩, fun S hS S' hS' k hk hk' => ?_⟩
  · rcases List.mem_append.1 hS with hS | hS
    · refine ⟨(A.apart S hS k hk).1, fun r x hx hF => ?_⟩
      obtain ⟨x1, hx1, _, _, _, hf⟩ := B.less.flags r x hx
      exact (A.apart S hS k hk).2 r x1 hx1 (hf k hF)
    · exact B.apart S hS k hk
  · rcases List.mem_append.1 hS with hS | hS
    · exact A.was S hS k hk
    · obtain ⟨r, x, hx, hF⟩ := B.was S hS k hk
      obtain ⟨x1, hx1, _, _, _, hf⟩ := A.less.flags r x hx
      exact ⟨r, x1, hx1, hf k hF⟩
  · obtain ⟨r, x, hx, hF⟩ := B.was S' hS' k hk'
    exact (A.apart S hS k hk).2 r x hx hF

theorem ta0_sound {u : Value} {a : AV} {h0 : Heap} {g0 : Gh} {k : AV → St → R} (h : ta0 a st k = some res) (G : Good w wr ts tm st g) (L : Less w h0 g0 st.heap g) (H : VR w h0 g0 u a) :
    ∃ a' S st' g', k a' st' = some res ∧ TR w true (Kr w wr false) S u a' ∧ Tk w wr ts tm st g [S] st' g' := by
  have one : ∀ {S : BS} {v : Value} {sz : Nat} {rows : Rows} {r : Nat} {p : Path} {st' : St} {g' : Gh}, Took w wr ts tm st g r p v sz rows S st' g' → Tk w wr ts tm st g [S] st' g' := by
    intro S v sz rows r p st' g' T
    refine ⟨T.good, T.less, fun S' h k hk => ?_, fun S' h k hk => ?_⟩
    · simp at h; subst h; exact T.apart k hk
    · simp at h; subst h
      obtain ⟨x, hx, _, hf⟩ := T.was
      exact ⟨r, x, hx, hf k hk⟩
  cases H <;> simp only [ta0] at h <;> try (cases h; done)
  · exact ⟨_, _, st, g, h, .bool _, .leaf G⟩
  · exact ⟨_, _, st, g, h, .int _ _, .leaf G⟩
  · exact ⟨_, _, st, g, h, .str _, .leaf G⟩
  · exact ⟨_, _, st, g, h, .nilp, .leaf G⟩
  · rename_i r p sz rows h1
    obtain ⟨v, sz', rows', S, st', g', h, T⟩ := takeL_sound h G
    obtain ⟨rows0, hb0, hlen0⟩ := L.back _ _ _ _ _ T.at_
    rw [h1] at hb0
    cases hb0
    exact ⟨_, S, st', g', h, T.tree, one T⟩
  · rename_i r p off len sz rows v0 h1 hl h2
    obtain ⟨v, sz', rows', S, st', g', h, T⟩ := takeL_sound h G
    obtain ⟨rows0, hb0, hlen0⟩ := L.back _ _ _ _ _ T.at_
    rw [h1] at hb0
    cases hb0
    exact ⟨_, S, st', g', h, T.tree.sub (by omega) h2, one T⟩
  · exact ⟨_, _, st, g, h, .nil, .leaf G⟩
theorem taL0_sound {h0 : Heap} {g0 : Gh} : ∀ {us : List Value} {l : List AV} {st : St} {g : Gh} {k : List AV → St → R}, taL0 l st k = some res → Good w wr ts tm st g → Less w h0 g0 st.heap g → VRs w h0 g0 us l →
    ∃ l' Ss st' g', k l' st' = some res ∧ T0s w true (Kr w wr false) us l' Ss ∧ Tk w wr ts tm st g Ss st' g'
  | _, _, st, g, k, h, G, _, .nil => ⟨[], [], st, g, h, .nil, .none G⟩
  | _, _, st, g, k, h, G, L, .cons h1 h2 => by
    simp only [taL0] at h
    obtain ⟨a', S, st1, g1, h, e1, T1⟩ := ta0_sound h G L h1
    obtain ⟨l', Ss, st2, g2, h, e2, T2⟩ := taL0_sound h T1.good (L.trans T1.less) h2
    obtain ⟨T3, hd⟩ := T1.trans T2
    exact ⟨_, _, st2, g2, h, .cons e1 (fun _ => hd S (by simp)) e2, T3⟩
theorem ta1_sound {u : Value} {a : AV} {h0 : Heap} {g0 : Gh} {k : AV → St → R} (h : ta1 a st k = some res) (G : Good w wr ts tm st g) (L : Less w h0 g0 st.heap g) (H : VR w h0 g0 u a) :
    ∃ a' Ss st' g', k a' st' = some res ∧ T1 w true (Kr w wr false) u a' Ss ∧ Tk w wr ts tm st g Ss st' g' := by
  by_cases hag : ∃ cs, a = .agg cs
  · obtain ⟨cs, rfl⟩ := hag
    cases H with
    | agg H =>
      simp only [ta1] at h
      obtain ⟨l', Ss, st', g', h, e, T⟩ := taL0_sound h G L H
      exact ⟨_, Ss, st', g', h, .agg e, T⟩
  · have h : ta0 a st k = some res := by
      cases a <;> first | exact h | exact absurd ⟨_, rfl⟩ hag
    obtain ⟨a', S, st', g', h, e, T⟩ := ta0_sound h G L H
    exact ⟨_, _, st', g', h, .one e, T⟩
theorem taL1_sound {h0 : Heap} {g0 : Gh} : ∀ {us : List Value} {l : List AV} {st : St} {g : Gh} {k : List AV → St → R}, taL1 l st k = some res → Good w wr ts tm st g → Less w h0 g0 st.heap g → VRs w h0 g0 us l →
    ∃ l' Ss st' g', k l' st' = some res ∧ T1s w true (Kr w wr false) us l' Ss ∧ Tk w wr ts tm st g Ss st' g'
  | _, _, st, g, k, h, G, _, .nil => ⟨[], [], st, g, h, .nil, .none G⟩
  | _, _, st, g, k, h, G, L, .cons h1 h2 => by
    simp only [taL1] at h
    obtain ⟨a', S1, st1, g1, h, e1, T1⟩ := ta1_sound h G L h1
    obtain ⟨l', Ss, st2, g2, h, e2, T2⟩ := taL1_sound h T1.good (L.trans T1.less) h2
    obtain ⟨T3, hd⟩ := T1.trans T2
    exact ⟨_, _, st2, g2, h, .cons e1 (fun _ => hd) e2, T3⟩
theorem ta2_sound {u : Value} {a : AV} {k : AV → St → R} (h : ta2 a st k = some res) (G : Good w wr ts tm st g) (H : VR w st.heap g u a) :
    ∃ a' Ss st' g', k a' st' = some res ∧ T2 w true (Kr w wr false) u a' Ss ∧ Tk w wr ts tm st g Ss st' g' := by
  by_cases hag : ∃ cs, a = .tup cs
  · obtain ⟨cs, rfl⟩ := hag
    cases H with
    | tup H =>
      simp only [ta2] at h
      obtain ⟨l', Ss, st', g', h, e, T⟩ := taL1_sound h G .refl H
      exact ⟨_, Ss, st', g', h, .tup e, T⟩
  · have h : ta1 a st k = some res := by
      cases a <;> first | exact h | exact absurd ⟨_, rfl⟩ hag
    obtain ⟨a', S, st', g', h, e, T⟩ := ta1_sound h G .refl H
    exact ⟨_, _, st', g', h, .one e, T⟩

/-! ### of the blocks, those that hold cells that are known -/
def trimS (w : World) (K : CS) (S : BS) : BS := fun k => S k ∧ k < w.heap.size ∧ ∃ q, K k q
theorem T0s.trim {own : Bool} {K : CS} : ∀ {vs : List Value} {l : List AV} {Ss : List BS}, T0s w own K vs l Ss → T0s w own K vs l (Ss.map (trimS w K))
  | _, _, _, .nil => .nil
  | _, _, _, .cons h1 h2 h3 => .cons h1.trim (fun ho S' hS' k hk hk' => by
      obtain ⟨S, hS, rfl⟩ := List.mem_map.1 hS'
      exact h2 ho S hS k hk.1 hk'.1) (T0s.trim h3)
theorem T1.trim {own : Bool} {K : CS} {v : Value} {a : AV} {Ss : List BS} (h : T1 w own K v a Ss) : T1 w own K v a (Ss.map (trimS w K)) := by
  cases h with
  | one h => exact .one h.trim
  | agg h => exact .agg h.trim
theorem T1s.trim {own : Bool} {K : CS} : ∀ {vs : List Value} {l : List AV} {Ss : List BS}, T1s w own K vs l Ss → T1s w own K vs l (Ss.map (trimS w K))
  | _, _, _, .nil => .nil
  | _, _, _, .cons h1 h2 h3 => by
    rw [List.map_append]
    exact .cons h1.trim (fun ho S hS S' hS' k hk hk' => by
      obtain ⟨R, hR, rfl⟩ := List.mem_map.1 hS
      obtain ⟨R', hR', rfl⟩ := List.mem_map.1 hS'
      exact h2 ho R hR R' hR' k hk.1 hk'.1) (T1s.trim h3)
theorem T2.trim {own : Bool} {K : CS} {v : Value} {a : AV} {Ss : List BS} (h : T2 w own K v a Ss) : T2 w own K v a (Ss.map (trimS w K)) := by
  cases h with
  | one h => exact .one h.trim
  | tup h => exact .tup h.trim
theorem T0s.mono {own : Bool} {K K' : CS} (hK : ∀ b q, K b q → K' b q) : ∀ {vs : List Value} {l : List AV} {Ss : List BS}, T0s w own K vs l Ss → T0s w own K' vs l Ss
  | _, _, _, .nil => .nil
  | _, _, _, .cons h1 h2 h3 => .cons (h1.mono (fun _ h => h) (fun b q _ => hK b q)) h2 (T0s.mono hK h3)
theorem T1.mono {own : Bool} {K K' : CS} (hK : ∀ b q, K b q → K' b q) {v : Value} {a : AV} {Ss : List BS} (h : T1 w own K v a Ss) : T1 w own K' v a Ss := by
  cases h with
  | one h => exact .one (h.mono (fun _ h => h) (fun b q _ => hK b q))
  | agg h => exact .agg (h.mono hK)
theorem T1s.mono {own : Bool} {K K' : CS} (hK : ∀ b q, K b q → K' b q) : ∀ {vs : List Value} {l : List AV} {Ss : List BS}, T1s w own K vs l Ss → T1s w own K' vs l Ss
  | _, _, _, .nil => .nil
  | _, _, _, .cons h1 h2 h3 => .cons (h1.mono hK) h2 (T1s.mono hK h3)
theorem T2.mono {own : Bool} {K K' : CS} (hK : ∀ b q, K b q → K' b q) {v : Value} {a : AV} {Ss : List BS} (h : T2 w own K v a Ss) : T2 w own K' v a Ss := by
  cases h with
  | one h => exact .one (h.mono hK)
  | tup h => exact .tup (h.mono hK)
end
section
variable {C : Ctx} {ts : List (List Value)} {w : World} {a : Act} {st : St} {wr : Wrs} {g : Gh} {res : Res}
/-- the answer of a function that writes nothing that was there -/
theorem Inv.answer (I : Inv C ts w a st wr g) (hq : ∀ b q, ¬ C.wr0 b q) {u : Value} {av : AV} {k : AV → St → R} (h : ta2 av st k = some res) (H : VR w st.heap g u av) : ∃ a' st', k a' st' = some res ∧ PRes C.w0 w u a' := by
  obtain ⟨a', Ss, st', g', h, e, T⟩ := ta2_sound h I.good H
  have e2 : T2 w true (fun b q => C.w0.heap.size ≤ b ∧ w.frozen? ⟨b, q, none⟩ = false) u a' (Ss.map (trimS w (Kr w wr false))) :=
    e.trim.mono (fun b q hk => ⟨Nat.le_of_not_lt fun hlt => hq b q (I.can b q hk.1 hlt), hk.2⟩)
  refine ⟨a', st', h, Ss.map (trimS w (Kr w wr false)), e2, fun S hS k hk => ?_⟩
  obtain ⟨R, _, rfl⟩ := List.mem_map.1 hS
  obtain ⟨_, hlt, q, hkq⟩ := hk
  exact ⟨Nat.le_of_not_lt fun hlt => hq k q (I.can k q hkq.1 hlt), hlt⟩
end
end Go.Abs

/- Soundness 45: the state at the beginning of a call on closed values. -/
namespace Go.Abs
section
variable {w : World} {res : Res}

theorem pushR_inv {h : Heap} {x : Root} {k : Nat → Heap → R} (hh : pushR h x k = some res) : k h.length (h ++ [some x]) = some res := by
  induction h generalizing k with
  | nil => exact hh
  | cons a h ih => simpa using ih hh

/-- roots behind pointers -/
structure HP (w : World) (h : Heap) (ρ : Nat → Value) : Prop where
  pos : ∃ l, h = none :: l
  root : ∀ m x, h[m]?.join = some x → ∃ (cs : List AV) (b o : Nat) (arr : Array Value) (e : TypeId) (fz : Nat × Nat) (vs : List Value), x = ⟨true, false, true, cs.length, [cs]⟩ ∧ ρ m = .slice (some ⟨b, o, none⟩) 1 1 ∧
    w.heap[b]? = some (.cells arr e fz) ∧ o + cs.length ≤ arr.size ∧ (∀ q v, vs[q]? = some v → arr[o + q]? = some v) ∧ Leaves w Any vs cs
/-- what the later heap has of it -/
def Later (row : List AV) (G : List Value) (h : Heap) (ρ : Nat → Value) (hF : Heap) (gF : Gh) : Prop :=
  (∃ row' G', row <+: row' ∧ G <+: G' ∧ hF[0]?.join = some ⟨true, true, true, 0, [row']⟩ ∧ gF.G 0 = G') ∧ ∀ m x, h[m]?.join = some x → hF[m]?.join = some x ∧ gF.ρ m = ρ m
def Nl (row : List AV) (G : List Value) (h : Heap) (ρ : Nat → Value) (v : Value) (av : AV) : Prop := ∀ (w : World) (hF : Heap) (gF : Gh), Later row G h ρ hF gF → VR w hF gF v av
def Nls (row : List AV) (G : List Value) (h : Heap) (ρ : Nat → Value) (vs : List Value) (l : List AV) : Prop := ∀ (w : World) (hF : Heap) (gF : Gh), Later row G h ρ hF gF → VRs w hF gF vs l

structure Grow (w : World) (row : List AV) (G : List Value) (h : Heap) (ρ : Nat → Value) (row' : List AV) (G' : List Value) (h' : Heap) (ρ' : Nat → Value) : Prop where
  pre : row <+: row'
  gs : G <+: G'
  leaves : Leaves w Any G row → Leaves w Any G' row'
  hp : HP w h ρ → HP w h' ρ'
  heap : ∀ m x, h[m]?.join = some x → h'[m]?.join = some x ∧ ρ' m = ρ m
theorem Grow.refl {row : List AV} {G : List Value} {h : Heap} {ρ : Nat → Value} : Grow w row G h ρ row G h ρ := ⟨List.prefix_refl _, List.prefix_refl _, fun h => h, fun h => h, fun _ _ h => ⟨h, rfl⟩⟩
theorem Grow.trans {row row1 row2 : List AV} {G G1 G2 : List Value} {h h1 h2 : Heap} {ρ ρ1 ρ2 : Nat → Value} (A : Grow w row G h ρ row1 G1 h1 ρ1) (B : Grow w row1 G1 h1 ρ1 row2 G2 h2 ρ2) : Grow w row G h ρ row2 G2 h2 ρ2 :=
  ⟨A.pre.trans B.pre, A.gs.trans B.gs, fun h => B.leaves (A.leaves h), fun h => B.hp (A.hp h), fun m x hx => by
    obtain ⟨e1, e2⟩ := A.heap m x hx
    obtain ⟨e3, e4⟩ := B.heap m x e1
    exact ⟨e3, e4.trans e2⟩⟩
theorem Grow.later {row row1 : List AV} {G G1 : List Value} {h h1 : Heap} {ρ ρ1 : Nat → Value} (A : Grow w row G h ρ row1 G1 h1 ρ1) {hF : Heap} {gF : Gh} (L : Later row1 G1 h1 ρ1 hF gF) : Later row G h ρ hF gF := by
  obtain ⟨⟨row', G', e1, e2, e3, e4⟩, L2⟩ := L
  refine ⟨⟨row', G', A.pre.trans e1, A.gs.trans e2, e3, e4⟩, fun m x hx => ?_⟩
  obtain ⟨f1, f2⟩ := A.heap m x hx
  obtain ⟨f3, f4⟩ := L2 m x f1
  exact ⟨f3, f4.trans f2⟩

theorem Leaves.snoc {K : CS} {v : Value} {a : AV} (h : Leaf w K v a) : ∀ {vs : List Value} {l : List AV}, Leaves w K vs l → Leaves w K (vs ++ [v]) (l ++ [a])
  | _, _, .nil => .cons h .nil
  | _, _, .cons h1 h2 => .cons h1 (Leaves.snoc h h2)
theorem Leaves.get {K : CS} : ∀ {vs : List Value} {l : List AV} {j : Nat} {a : AV}, Leaves w K vs l → l[j]? = some a → ∃ v, vs[j]? = some v ∧ Leaf w K v a
  | _, _, 0, _, .cons h1 _, ha => by simp at ha; subst ha; exact ⟨_, rfl, h1⟩
  | _, _, j + 1, _, .cons _ h2, ha => by
    obtain ⟨v, e1, e2⟩ := Leaves.get (j := j) h2 (by simpa using ha)
    exact ⟨v, by simpa using e1, e2⟩
  | _, _, 0, _, .nil, ha => by simp at ha
  | _, _, j + 1, _, .nil, ha => by simp at ha

theorem oa0 {v : Value} {a : AV} {row : List AV} {G : List Value} {h : Heap} {ρ : Nat → Value} {k : AV → List AV → R} (hh : op0 0 a row k = some res) (hG : Leaves w Any G row) (T : Leaf w Any v a) :
    ∃ av row' G', k av row' = some res ∧ Grow w row G h ρ row' G' h ρ ∧ Nl row' G' h ρ v av := by
  have leaf : ∀ a', a' = a → (∀ sz rows, a ≠ .lst sz rows) → k a' row = some res → ∃ av row' G', k av row' = some res ∧ Grow w row G h ρ row' G' h ρ ∧ Nl row' G' h ρ v av := by
    rintro a' rfl hn hk
    exact ⟨a', row, G, hk, .refl, fun w' hF gF _ => TR.leafVR T w' hF gF hn⟩
  cases a <;> simp only [op0] at hh <;> try (cases hh; done)
  case lst sz rows =>
    have hh := addK_inv hh
    refine ⟨_, row ++ [.lst sz rows], G ++ [v], hh, ⟨List.prefix_append _ _, List.prefix_append _ _, fun hl => hl.snoc T, fun h => h, fun _ _ h => ⟨h, rfl⟩⟩, fun w' hF gF L => ?_⟩
    obtain ⟨⟨row', G', e1, e2, e3, e4⟩, _⟩ := L
    have f1 : row'[row.length]? = some (.lst sz rows) := by
      obtain ⟨t, rfl⟩ := e1
      simp
    have f2 : G'[row.length]? = some v := by
      obtain ⟨t, rfl⟩ := e2
      rw [← hG.length]
      simp
    refine .ref (sz := sz) (rows := rows) ?_
    rw [hwalk_eq e3]
    simp only [vwalk, List.getElem?_cons_zero, f1, e4, f2, walk]
  all_goals exact leaf _ rfl (fun _ _ e => by cases e) hh
theorem oaL {h : Heap} {ρ : Nat → Value} : ∀ {vs : List Value} {l : List AV} {row : List AV} {G : List Value} {k : List AV → List AV → R}, opL0 0 l row k = some res → Leaves w Any G row → Leaves w Any vs l →
    ∃ avs row' G', k avs row' = some res ∧ Grow w row G h ρ row' G' h ρ ∧ Nls row' G' h ρ vs avs
  | _, _, row, G, k, hh, _, .nil => ⟨[], row, G, by simpa [opL0] using hh, .refl, fun _ _ _ _ => .nil⟩
  | _, _, row, G, k, hh, hG, .cons h1 h2 => by
    simp only [opL0] at hh
    obtain ⟨av, r1, G1, hh, A, n1⟩ := oa0 (h := h) (ρ := ρ) hh hG h1
    obtain ⟨avs, r2, G2, hh, B, n2⟩ := oaL (h := h) (ρ := ρ) hh (A.leaves hG) h2
    exact ⟨_, r2, G2, hh, A.trans B, fun w' hF gF L => .cons (n1 w' hF gF (B.later L)) (n2 w' hF gF L)⟩
theorem push_get {h : Heap} {x : Root} {m : Nat} : (h ++ [some x])[m]?.join = if m = h.length then some x else h[m]?.join := by
  rcases Nat.lt_trichotomy m h.length with hlt | rfl | hgt
  · rw [List.getElem?_append_left hlt, if_neg (by omega)]
  · simp
  · rw [if_neg (by omega), List.getElem?_eq_none (by simp; omega), List.getElem?_eq_none (by omega)]
theorem push_hp {h : Heap} {ρ : Nat → Value} {b o : Nat} {cs : Array Value} {e : TypeId} {fz : Nat × Nat} {vs : List Value} {l : List AV} {row : List AV} {G : List Value} (hb : w.heap[b]? = some (.cells cs e fz)) (hs : o + l.length ≤ cs.size)
    (hv : ∀ q v, vs[q]? = some v → cs[o + q]? = some v) (hl : Leaves w Any vs l) (hpos : 0 < h.length) :
    Grow w row G h ρ row G (h ++ [some ⟨true, false, true, l.length, [l]⟩]) (fun m => if m = h.length then .slice (some ⟨b, o, none⟩) 1 1 else ρ m) ∧
    Nl row G (h ++ [some ⟨true, false, true, l.length, [l]⟩]) (fun m => if m = h.length then .slice (some ⟨b, o, none⟩) 1 1 else ρ m) (.pointer (some ⟨b, o, none⟩)) (.ptr h.length [] 0 0) := by
  refine ⟨⟨List.prefix_refl _, List.prefix_refl _, fun h => h, fun H => ?_, fun m x hx => ?_⟩, fun w' hF gF L => ?_⟩
  · refine ⟨by obtain ⟨t, rfl⟩ := H.pos; exact ⟨_, rfl⟩, fun m x hx => ?_⟩
    rw [push_get] at hx
    split at hx
    · rename_i hm
      cases hx
      exact ⟨l, b, o, cs, e, fz, vs, rfl, by simp [hm], hb, hs, hv, hl⟩
    · rename_i hm
      obtain ⟨cs', b', o', arr, e', fz', vs', k1, k2, k3⟩ := H.root m x hx
      exact ⟨cs', b', o', arr, e', fz', vs', k1, by simpa [hm] using k2, k3⟩
  · have hm : m ≠ h.length := by
      rintro rfl
      simp at hx
    rw [push_get, if_neg hm]
    exact ⟨hx, by simp [hm]⟩
  · obtain ⟨f1, f2⟩ := L.2 h.length ⟨true, false, true, l.length, [l]⟩ (by rw [push_get, if_pos rfl])
    have := VR.ptr (w := w') (h := hF) (g := gF) (r := h.length) (p := []) (i := 0) (j := 0) (sz := l.length) (rows := [l]) (b := b) (o := o) (n := 1) (c := 1) (by
      rw [hwalk_eq f1]
      simp only [walk, f2, if_true])
    simpa using this
theorem oaC_sound : ∀ {vs : List Value} {l : List AV} {row : List AV} {G : List Value} {h : Heap} {ρ : Nat → Value} {k : List AV → List AV → Heap → R}, oaC true l row h k = some res → Leaves w Any G row → 0 < h.length → PVs w Any vs l →
    ∃ avs row' G' h' ρ', k avs row' h' = some res ∧ Grow w row G h ρ row' G' h' ρ' ∧ Nls row' G' h' ρ' vs avs ∧ 0 < h'.length
  | _, _, row, G, h, ρ, k, hh, _, hp, .nil => ⟨[], row, G, h, ρ, hh, .refl, fun _ _ _ _ => .nil, hp⟩
  | _, a :: l, row, G, h, ρ, k, hh, hG, hp, .cons h1 h2 => by
    cases h1 with
    | pv hb hs hK hv hl =>
      simp only [oaC] at hh
      have hh := pushR_inv hh
      obtain ⟨A, n1⟩ := push_hp (row := row) (G := G) (ρ := ρ) hb hs hv hl hp
      obtain ⟨avs, r2, G2, h', ρ', hh, B, n2, hp'⟩ := oaC_sound hh hG (by simp) h2
      exact ⟨_, r2, G2, h', ρ', hh, A.trans B, fun w' hF gF L => .cons (n1 w' hF gF (B.later L)) (n2 w' hF gF L), hp'⟩
    | leaf T =>
      have hh : (op0 0 a row fun v row => oaC true l row h fun l row h => k (v :: l) row h) = some res := by
        unfold Leaf at T
        cases T <;> exact hh
      obtain ⟨av, r1, G1, hh, A, n1⟩ := oa0 (h := h) (ρ := ρ) hh hG T
      obtain ⟨avs, r2, G2, h', ρ', hh, B, n2, hp'⟩ := oaC_sound (ρ := ρ) hh (A.leaves hG) hp h2
      exact ⟨_, r2, G2, h', ρ', hh, A.trans B, fun w' hF gF L => .cons (n1 w' hF gF (B.later L)) (n2 w' hF gF L), hp'⟩
theorem oa_sound : ∀ {vs : List Value} {l : List AV} {row : List AV} {G : List Value} {h : Heap} {ρ : Nat → Value} {k : List AV → List AV → Heap → R}, oa true l row h k = some res → Leaves w Any G row → 0 < h.length → ARs w Any vs l →
    ∃ avs row' G' h' ρ', k avs row' h' = some res ∧ Grow w row G h ρ row' G' h' ρ' ∧ Nls row' G' h' ρ' vs avs ∧ 0 < h'.length
  | _, _, row, G, h, ρ, k, hh, _, hp, .nil => ⟨[], row, G, h, ρ, hh, .refl, fun _ _ _ _ => .nil, hp⟩
  | _, a :: l, row, G, h, ρ, k, hh, hG, hp, .cons h1 h2 => by
    cases h1 with
    | pv h1 =>
      cases h1 with
      | pv hb hs hK hv hl =>
        simp only [oa] at hh
        have hh := pushR_inv hh
        obtain ⟨A, n1⟩ := push_hp (row := row) (G := G) (ρ := ρ) hb hs hv hl hp
        obtain ⟨avs, r2, G2, h', ρ', hh, B, n2, hp'⟩ := oa_sound hh hG (by simp) h2
        exact ⟨_, r2, G2, h', ρ', hh, A.trans B, fun w' hF gF L => .cons (n1 w' hF gF (B.later L)) (n2 w' hF gF L), hp'⟩
      | leaf T =>
        have hh : (op0 0 a row fun v row => oa true l row h fun l row h => k (v :: l) row h) = some res := by
          unfold Leaf at T
          cases T <;> exact hh
        obtain ⟨av, r1, G1, hh, A, n1⟩ := oa0 (h := h) (ρ := ρ) hh hG T
        obtain ⟨avs, r2, G2, h', ρ', hh, B, n2, hp'⟩ := oa_sound (ρ := ρ) hh (A.leaves hG) hp h2
        exact ⟨_, r2, G2, h', ρ', hh, A.trans B, fun w' hF gF L => .cons (n1 w' hF gF (B.later L)) (n2 w' hF gF L), hp'⟩
    | agg T =>
      simp only [oa] at hh
      obtain ⟨av, r1, G1, hh, A, n1⟩ := oaL (h := h) (ρ := ρ) hh hG T
      obtain ⟨avs, r2, G2, h', ρ', hh, B, n2, hp'⟩ := oa_sound (ρ := ρ) hh (A.leaves hG) hp h2
      exact ⟨_, r2, G2, h', ρ', hh, A.trans B, fun w' hF gF L => .cons (.agg (n1 w' hF gF (B.later L))) (n2 w' hF gF L), hp'⟩
    | fn T =>
      simp only [oa] at hh
      obtain ⟨av, r1, G1, h1', ρ1, hh, A, n1, hp1⟩ := oaC_sound (ρ := ρ) hh hG hp T
      obtain ⟨avs, r2, G2, h', ρ', hh, B, n2, hp'⟩ := oa_sound (ρ := ρ1) hh (A.leaves hG) hp1 h2
      exact ⟨_, r2, G2, h', ρ', hh, A.trans B, fun w' hF gF L => .cons (.fn (n1 w' hF gF (B.later L))) (n2 w' hF gF L), hp'⟩

/-- at the beginning -/
theorem openArgs_sound {vs : List Value} {l : List AV} {k : List AV → Heap → R} (hh : openArgs true l k = some res) (H : ARs w Any vs l) :
    ∃ avs h g, k avs h = some res ∧ Rel w ⟨Quiet, Any⟩ h g ∧ VRs w h g vs avs := by
  unfold openArgs at hh
  obtain ⟨avs, row, G, h, ρ, hh, A, n, _⟩ := oa_sound (ρ := fun _ => Go.undef) (G := []) hh .nil (by simp) H
  have hh := setH_inv hh
  have hl := A.leaves .nil
  have hhp := A.hp ⟨⟨[], rfl⟩, fun m x hx => by
    cases m with
    | zero => simp at hx
    | succ m => simp at hx⟩
  obtain ⟨t, ht⟩ := hhp.pos
  have get : ∀ m, (put h 0 (some ⟨true, true, true, 0, [row]⟩))[m]?.join = if m = 0 then some ⟨true, true, true, 0, [row]⟩ else h[m]?.join := fun m => put_get _ _ _ _
  refine ⟨avs, _, ⟨ρ, fun _ => G, fun _ k => k < w.heap.size⟩, hh, ⟨fun r x hx => ?_, fun r x r' x' k hx hx' hne hro => ?_, fun r x k hx hF => hF⟩, n w _ _ ⟨⟨row, G, List.prefix_refl _, List.prefix_refl _, by rw [get, if_pos rfl], rfl⟩, fun m x hx => ?_⟩⟩
  · rw [get] at hx
    unfold RootR
    split at hx
    · cases hx
      simp only
      refine ⟨row, fun _ k => k < w.heap.size, rfl, hl.length, fun _ _ h => h, (fun h => nomatch h), fun j a v ha hv => ?_⟩
      obtain ⟨v', e1, e2⟩ := hl.get ha
      simp only at hv
      rw [e1] at hv
      cases hv
      exact TR.mono e2 (fun _ h => h) (fun b q _ _ => ⟨fun h => h, trivial⟩)
    · obtain ⟨cs, b, o, arr, e, fz, vs', rfl, k2, k3, k4, k5, k6⟩ := hhp.root r x hx
      simp only
      refine ⟨b, o, arr, e, fz, fun _ _ k => k < w.heap.size, k2, k3, by simpa using k4, fun row' hr => by simp at hr; rw [hr], fun q _ _ => ⟨fun h => h, trivial⟩, get_lt k3, fun _ _ _ h => h, (fun h => nomatch h), fun i j row' a hr ha => ?_⟩
      cases i with
      | succ i => simp at hr
      | zero =>
        simp at hr
        subst hr
        obtain ⟨v', e1, e2⟩ := k6.get ha
        have e3 : arr.getD (o + 0 * cs.length + j) default = v' := by
          rw [Nat.zero_mul, Nat.add_zero]
          exact getD_of (k5 j v' e1)
        rw [e3]
        unfold CellB
        rw [(kV1_TR 0 [] e2).2]
        exact TR.mono e2 (fun _ h => h) (fun b q _ _ => ⟨fun h => h, trivial⟩)
  · have ro : ∀ (m : Nat) (y : Root), (put h 0 (some ⟨true, true, true, 0, [row]⟩))[m]?.join = some y → y.ro = true := by
      intro m y hy
      rw [get] at hy
      split at hy
      · cases hy; rfl
      · obtain ⟨_, _, _, _, _, _, _, rfl, _⟩ := hhp.root m y hy
        rfl
    rw [ro r x hx] at hro
    cases hro
  · rw [get]
    have hm : m ≠ 0 := by
      rintro rfl
      rw [ht] at hx
      simp at hx
    rw [if_neg hm]
    exact ⟨hx, rfl⟩
end
end Go.Abs

/- Soundness 46: calls; bodies; one level more. -/
namespace Go.Abs
section
variable {P : Program} {E : Env} {cfg : Cfg} {lv : Lev} {C : Ctx} {ts : List (List Value)} {w w' : World} {a : Act} {st : St} {wr : Wrs} {g : Gh} {c : St → R} {res : Res} {o : Oper} {slot : Nat}

theorem bnd_inv {x : R} {k : Res → R} (h : bnd x k = some res) : ∃ v, x = some v ∧ k v = some res := by
  cases x with
  | none => rw [bnd_none] at h; cases h
  | some v => rw [bnd_some] at h; exact ⟨v, rfl, h⟩
theorem Inv.J (I : Inv C ts w a st wr g) : C.E.J w ∧ C.E.N ≤ w.heap.size := by
  refine ⟨C.E.stable C.w0 w C.hJ (fun b hb => I.fr.block b (Nat.lt_of_lt_of_le hb C.hN) (fun q hq => ?_)) I.fr.os I.fr.tape I.fr.output, Nat.le_trans C.hN I.fr.size⟩
  have := C.hwr b q hq
  omega
/-- what a call gives its caller -/
def COut (C : Ctx) (ts : List (List Value)) (a : Act) (k : AV → St → R) (res : Res) (e : Ending) (w' : World) : Prop :=
  ∃ v av st' wr' g', e = .returned v ∧ Inv C ts w' a st' wr' g' ∧ VR w' st'.heap g' v av ∧ k av st' = some res
theorem pure_call (hL : PureOK P E cfg lv.pure) (hE : C.E = E) (I : Inv C ts w a st wr g) {f : FuncId} {args : List AV} {vals : List Value} {own : Bool} {lent : List AV} {k : AV → St → R} (hm : cfg.mode f = 0) (H : ARs w Any vals args)
    (h : (bnd (lv.pure f args) fun res => opened slot own lent res.val st k) = some res) : FnOK P f ∧ Calls P f vals.toArray w (COut C ts a k res) := by
  obtain ⟨r, hr, h⟩ := bnd_inv h
  obtain ⟨hf, hc⟩ := hL f args r hm hr
  refine ⟨hf, (hc w vals (hE ▸ I.J.1) (hE ▸ I.J.2) H).mono fun e w' ⟨v, he, F, T⟩ => ?_⟩
  obtain ⟨av, st', wr', g', h1, h2, h3⟩ := opened_sound h I F T
  exact ⟨v, av, st', wr', g', he, h2, h3, h1⟩
theorem callF_sound (hL : LevOK P E cfg lv) (hE : C.E = E) (I : Inv C ts w a st wr g) {f : FuncId} {tys : List TypeId} {args : List AV} {vals : List Value} {k : AV → St → R} (H : VRs w st.heap g vals args)
    (h : callF cfg lv slot f tys args st k = some res) : FnOK P f ∧ Calls P f vals.toArray w (COut C ts a k res) := by
  unfold callF at h
  split at h
  · rename_i hm
    obtain ⟨l', h, H'⟩ := clArgs_sound I.good.rel h H
    exact pure_call hL.pure hE I hm H' h
  · obtain ⟨hf, hc⟩ := hL.inl f args st k res h
    exact ⟨hf, hc C ts w a wr g vals hE I H⟩
  · cases h
theorem callC_sound (hL : LevOK P E cfg lv) (hE : C.E = E) (I : Inv C ts w a st wr g) {f : FuncId} {tys : List TypeId} {args cap : List AV} {vals caps : List Value} {k : AV → St → R} (H : VRs w st.heap g vals args) (Hc : VRs w st.heap g caps cap)
    (h : callC cfg lv slot f tys args cap st k = some res) : FnOK P f ∧ Calls P f (vals ++ caps).toArray w (COut C ts a k res) := by
  unfold callC at h
  split at h
  · cases Hc
    rw [List.append_nil]
    exact callF_sound hL hE I H h
  · split at h
    · rename_i hm
      obtain ⟨l1, h, H1⟩ := clArgs_sound I.good.rel h H
      obtain ⟨l2, h, H2⟩ := clC_sound I.good.rel h Hc
      have h := cat_inv h
      obtain ⟨r, hr, h⟩ := bnd_inv h
      have h := cat_inv h
      have hx : (bnd (lv.pure f (l1 ++ l2)) fun res => opened slot (cfg.own f) (args ++ cap) res.val st k) = some res := by rw [hr, bnd_some]; exact h
      exact pure_call hL.pure hE I hm (H1.append H2.args) hx
    · have h := cat_inv h
      obtain ⟨hf, hc⟩ := hL.inl f _ st k res h
      exact ⟨hf, hc C ts w a wr g _ hE I (H.append Hc)⟩
theorem ev_callv (hL : LevOK P E cfg lv) (hE : C.E = E) {cl : Call} {fo : Operand} {Q : Exit → Act → World → Prop} (ho : o.op = .call cl) (hb : cl.callee = .value fo) (h : evOp cfg lv slot o st c = some res) (I : Inv C ts w a st wr g) :
    o.wp P a w (Post C ts c res) Q := by
  simp only [evOp, ho, hb] at h
  obtain ⟨vs, h, H⟩ := opnds_sound I.good.env h
  obtain ⟨fv, h, Hf⟩ := opnd_sound h I.good.env
  split at h
  · rename_i f cap
    generalize hx : a.eval fo = vx at Hf
    cases Hf with
    | @fn _ caps _ Hc =>
    obtain ⟨hf, hc⟩ := callC_sound hL hE I H Hc h
    have e1 : (cl.args.toList.map a.eval ++ caps).toArray = cl.args.map a.eval ++ caps.toArray := by
      rw [← Array.toList_map]; simp
    rw [e1] at hc
    have hrun : (execOp a.eval o).run P w = .ok (.enter f (cl.args.map a.eval ++ caps.toArray)) w := by
      have e2 : execOp a.eval o = (do let d ← resolve a.eval cl o.type; invoke d.target d.args) := by simp only [execOp, ho]
      rw [e2]
      simp only [resolve, hb, hx, Deferred.ofValue, Sem.run_bind, Sem.run_pure, Result.andThen_ok, invoke]
      have e3 : (#[] : Array Value) ++ cl.args.map a.eval = cl.args.map a.eval := by simp
      rw [e3]
      exact run_callFunc hf _ w
    unfold Oper.wp
    rw [hrun, Oper.upon_enter]
    refine hc.mono fun e w'' ⟨v, av, st', wr', g', he, I', H', hk⟩ => ?_
    subst he
    exact I'.put hk H'
  · cases h

/-! ### what a function hands back -/
def resOne (a : Array Value) (x : ResultVar) : Sem Value := match x with
  | .tmp t => pure (a.getD t undef)
  | .cell b t => do loadVar t (← asAddr (a.getD b undef))
theorem results_eq (fn : Func) (tmps : Array Value) : results fn tmps = (do
    let vs ← List.toArray <$> fn.results.toList.mapM (resOne tmps)
    pure (if h : vs.size = 1 then vs[0] else .tuple vs)) := by
  unfold results
  rw [Array.mapM_eq_mapM_toList]
  rfl
theorem gather_sound (hT : TysOK P cfg.ty) (I : Inv C ts w a st wr g) : ∀ {l : List ResultVar} {k : List AV → R}, gather cfg st l k = some res →
    ∃ us avs, k avs = some res ∧ (l.mapM (resOne a.tmps)).run P w = .ok us w ∧ VRs w st.heap g us avs
  | [], k, h => ⟨[], [], h, rfl, .nil⟩
  | x :: l, k, h => by
    have one : ∃ u av, (gather cfg st l fun vs => k (av :: vs)) = some res ∧ (resOne a.tmps x).run P w = .ok u w ∧ VR w st.heap g u av := by
      simp only [gather] at h
      split at h
      · rename_i t
        obtain ⟨av, h1, h⟩ := getE_inv h
        obtain ⟨v, h2, h3⟩ := I.good.env.get h1
        rw [Array.getElem?_toList] at h2
        exact ⟨v, av, h, by simp [resOne, h2], h3⟩
      · rename_i b t
        obtain ⟨av, h1, h⟩ := getE_inv h
        obtain ⟨v, h2, h3⟩ := I.good.env.get h1
        rw [Array.getElem?_toList] at h2
        have hp : ∃ ad, v = .pointer (some ad) := by
          cases h3 <;> simp only [loadT] at h <;> first | (cases h; done) | exact ⟨_, rfl⟩
        obtain ⟨ad, rfl⟩ := hp
        obtain ⟨u, av', h4, h5, h⟩ := loadT_sound (P := P) hT I.good.rel h h3
        refine ⟨u, av', h, ?_, h5⟩
        simpa [resOne, h2, Instr.loadAt, Instr.sureAddr, asAddr] using h4
    obtain ⟨u, av, h, h1, h2⟩ := one
    obtain ⟨us, avs, h, h3, h4⟩ := gather_sound hT I h
    exact ⟨u :: us, av :: avs, h, by simp [List.mapM_cons, h1, h3], .cons h2 h4⟩
theorem one_sound {us : List Value} {avs : List AV} {h : Heap} {k : AV → R} (hh : one avs k = some res) (H : VRs w h g us avs) : ∃ av, k av = some res ∧ VR w h g (if h : us.toArray.size = 1 then us.toArray[0] else .tuple us.toArray) av := by
  unfold one at hh
  split at hh
  · cases H with
    | cons h1 h2 =>
      cases h2
      exact ⟨_, hh, by simpa using h1⟩
  · rename_i hn
    refine ⟨_, hh, ?_⟩
    rw [dif_neg]
    · exact .tup H
    · intro hs
      have hl := H.length
      cases avs with
      | nil => simp at hl; subst hl; simp at hs
      | cons a0 avs =>
        cases avs with
        | nil => exact hn a0 rfl
        | cons => simp at hl hs; omega

theorem body_sound (hT : TysOK P cfg.ty) (hE : C.E = E) (hO : OpsOK P E cfg lv) {f : FuncId} {fn : Func} (hf : P.funcs[f]? = some fn) (hD : ∀ b, fn.body = some b → DrawsOK P E (evDraw cfg lv f) b) {args : List AV} {vals : List Value} {stk : List (List AV)} {h : Heap} {k : AV → St → R}
    (hh : body cfg lv f fn args stk h k = some res) (hlen : vals.length = args.length)
    (I : ∀ n, Inv C ts w { tmps := vals.toArray ++ Array.replicate n Go.undef, defers := [] } ⟨args ++ List.replicate n .undef, stk, h⟩ wr g) :
    Calls P f vals.toArray w fun e w' => ∃ v av a' st' wr' g', e = .returned v ∧ Inv C ts w' a' st' wr' g' ∧ VR w' st'.heap g' v av ∧ k av st' = some res := by
  unfold body at hh
  split at hh
  · cases hh
  · rename_i b hb
    have hh := undefs_inv hh
    have hh := cat_inv hh
    have hev := ev_sound (f := f) hE hO clean_ok b (hD b hb) _ _ res { tmps := vals.toArray ++ Array.replicate (fn.ntmps - args.length) Go.undef, defers := [] } w hh ⟨wr, g, I _⟩
    refine calls_of_wp hf hb ?_
    have e1 : vals.toArray.size = args.length := by simpa using hlen
    rw [e1]
    refine wp_mono hev fun e a' w' hp => ?_
    obtain ⟨st', h1, wr', g', I'⟩ := hp
    have fin : (gather cfg st' fn.results.toList fun vs => one vs fun v => k v st') = some res → a'.defers = [] ∧ ∃ v, (results fn a'.tmps).run P w' = .ok v w' ∧ ∃ v' av a'' st' wr' g', Ending.returned v = .returned v' ∧ Inv C ts w' a'' st' wr' g' ∧ VR w' st'.heap g' v' av ∧ k av st' = some res := by
      intro h2
      obtain ⟨us, avs, h3, h4, h5⟩ := gather_sound hT I' h2
      obtain ⟨av, h6, h7⟩ := one_sound h3 h5
      refine ⟨I'.nodef, _, ?_, _, av, a', st', wr', g', rfl, I', h7, h6⟩
      rw [results_eq]
      simp [h4]
    cases e with
    | normal => exact fin h1
    | ret => exact fin h1
    | exit id => simp at h1
    | goto l => simp at h1
    | panic ch => simp at h1
    | outgrown => simp at h1
end
end Go.Abs

/- Soundness 47: slices built. -/
namespace Go.Abs
section
variable {P : Program} {cfg : Cfg} {lv : Lev} {C : Ctx} {ts : List (List Value)} {w w' : World} {a : Act} {st : St} {wr : Wrs} {g : Gh} {c : St → R} {res : Res} {o : Oper} {slot : Nat}

theorem part_in {ex : Bool} {tm : List Value} {h0 : Heap} {g0 : Gh} {l : List AV} {us : List Value} {k : List AV → St → R} (h : cellsIn0 ex ex 0 l st k = some res) (G : Good w wr ts tm st g) (L : Less w h0 g0 st.heap g) (hs : ex = true → st.heap = h0 ∧ g = g0) (H : VRs w h0 g0 us l) :
    ∃ cs Ss st' g', k cs st' = some res ∧ Ins w wr ts tm ex us st g cs Ss st' g' ∧ (ex = true → st' = st ∧ g' = g) := by
  cases ex with
  | true =>
    obtain ⟨e1, e2⟩ := hs rfl
    subst e1 e2
    obtain ⟨cs, Ss, h, I⟩ := cellsIn0_names G h H
    exact ⟨cs, Ss, st, g, h, I, fun _ => ⟨rfl, rfl⟩⟩
  | false =>
    obtain ⟨cs, Ss, st', g', h, I⟩ := cellsIn0_sound h G L H
    exact ⟨cs, Ss, st', g', h, I, fun h => nomatch h⟩
theorem Grid.move {ex : Bool} {sz : Nat} {rows : Rows} {cs : Array Value} {f : Nat → Nat → BS} {h h' : Heap} {g g' : Gh} (D : Grid w wr h g ex sz rows cs f) (L : Less w h g h' g') (hs : ex = true → h' = h ∧ g' = g) : Grid w wr h' g' ex sz rows cs f := by
  refine ⟨D.len, fun i j row a hr ha => ⟨(D.cell i j row a hr ha).1, fun hx => ?_⟩, fun i j k hk => ⟨(D.apart i j k hk).1, fun r x hx hF => ?_⟩, D.own⟩
  · obtain ⟨he, hv⟩ := (D.cell i j row a hr ha).2 hx
    obtain ⟨e1, e2⟩ := hs he
    subst e1 e2
    exact ⟨he, hv⟩
  · obtain ⟨x1, hx1, _, _, _, hf⟩ := L.flags r x hx
    exact (D.apart i j k hk).2 r x1 hx1 (hf k hF)
/-- one cell of a block to be -/
theorem Grid.set1 {ex : Bool} {sz : Nat} {rows : Rows} {cs : Array Value} {f : Nat → Nat → BS} {h : Heap} {g : Gh} (D : Grid w wr h g ex sz rows cs f) (hsz : rows.length * sz = cs.size) {i j : Nat} {row : List AV} {u : Value} {av : AV} {S : BS} (hi : rows[i]? = some row) (hj : j < row.length)
    (h1 : isX av = false → TR w true (Kr w wr false) S u av) (h2 : isX av = true → ex = true ∧ VR w h g u av) (h3 : ∀ k, S k → k < w.heap.size ∧ ∀ r x, h[r]?.join = some x → ¬ g.F r k) (h4 : ∀ i' j' k, f i' j' k → ¬ S k) :
    Grid w wr h g ex sz (rows.set i (row.set j av)) (cs.setIfInBounds (i * sz + j) u) (fun i' j' => if i' = i ∧ j' = j then S else f i' j') := by
  have hil : i < rows.length := (List.getElem?_eq_some_iff.1 hi).1
  have hjs : j < sz := by rw [← D.len row (mem_get hi)]; exact hj
  have hq : i * sz + j < cs.size := by
    rw [← hsz]
    have := idx_lt (o := 0) hil (Nat.le_refl _) hjs
    omega
  refine ⟨set_rowlen hi D.len, fun i' j' row' a' hr ha => ?_, fun i' j' k hk => ?_, fun i1 j1 i2 j2 k k1 k2 => ?_⟩
  · by_cases e : i' = i ∧ j' = j
    · obtain ⟨rfl, rfl⟩ := e
      rw [List.getElem?_set_self hil] at hr
      cases hr
      rw [List.getElem?_set_self hj] at ha
      cases ha
      simp only [and_self, if_true]
      rw [cellSet_self hq]
      exact ⟨h1, h2⟩
    · simp only [if_neg e]
      have hold : ∃ row0, rows[i']? = some row0 ∧ row0[j']? = some a' := by
        by_cases e3 : i = i'
        · subst e3
          rw [List.getElem?_set_self hil] at hr
          cases hr
          have e4 : j ≠ j' := fun e4 => e ⟨rfl, e4.symm⟩
          rw [List.getElem?_set_ne e4] at ha
          exact ⟨row, hi, ha⟩
        · rw [List.getElem?_set_ne e3] at hr
          exact ⟨row', hr, ha⟩
      obtain ⟨row0, h5, h6⟩ := hold
      have hj' : j' < sz := by rw [← D.len row0 (mem_get h5)]; exact (List.getElem?_eq_some_iff.1 h6).1
      rw [cellSet (fun e5 => e (idx_inj hj' hjs e5))]
      exact D.cell i' j' row0 a' h5 h6
  · split at hk
    · exact h3 k hk
    · exact D.apart _ _ k hk
  · split at k1 <;> split at k2
    · rename_i e1 e2; exact ⟨e1.1.trans e2.1.symm, e1.2.trans e2.2.symm⟩
    · exact absurd k1 (h4 _ _ k k2)
    · exact absurd k2 (h4 _ _ k k1)
    · exact D.own _ _ _ _ k k1 k2
theorem set_same_len {rows : Rows} {i j : Nat} {row : List AV} {av : AV} : (rows.set i (row.set j av)).length = rows.length := by simp
theorem Grid.sets {ex : Bool} {sz i : Nat} {h : Heap} {g : Gh} : ∀ {us : List Value} {l : List AV} {Ss : List BS} {rows : Rows} {cs : Array Value} {f : Nat → Nat → BS} {j : Nat} {k : Rows → R}, setCells rows i j l k = some res → Grid w wr h g ex sz rows cs f → rows.length * sz = cs.size → Hand w wr h g ex us l Ss →
    (∀ S ∈ Ss, ∀ i' j' k, f i' j' k → ¬ S k) → ∃ rows' cs' f', k rows' = some res ∧ Grid w wr h g ex sz rows' cs' f' ∧ rows'.length = rows.length ∧ cs'.toList = putAt cs.toList (i * sz + j) us ∧ (us ≠ [] → j + us.length ≤ sz ∧ i < rows.length) ∧ (∀ i' j' k, f' i' j' k → f i' j' k ∨ ∃ S ∈ Ss, S k)
  | _, _, _, rows, cs, f, j, k, hh, D, _, .nil, _ => ⟨rows, cs, f, hh, D, rfl, rfl, fun h => absurd rfl h, fun _ _ _ h => .inl h⟩
  | _, _, _, rows, cs, f, j, k, hh, D, hsz, .cons (Ss := Ss) h1 h2 h3 h4 h5, hS => by
    simp only [setCells] at hh
    obtain ⟨row, hi, hj, hh⟩ := setRC_inv hh
    have D' := D.set1 hsz hi hj h1 h2 h3 (fun i' j' k hk => hS _ (by simp) i' j' k hk)
    obtain ⟨rows', cs', f', e1, e2, e3, e4, e5, e6⟩ := Grid.sets hh D' (by rw [set_same_len, Array.size_setIfInBounds]; exact hsz) h5 (fun S' hS' i' j' k hk => by
      split at hk
      · exact h4 S' hS' k hk
      · exact hS S' (by simp [hS']) i' j' k hk)
    have hjs : j < sz := by rw [← D.len row (mem_get hi)]; exact hj
    refine ⟨rows', cs', f', e1, e2, by rw [e3, set_same_len], ?_, fun _ => ?_, fun i' j' k hk => ?_⟩
    · rw [e4]
      simp [putAt, Nat.add_assoc]
    · have hil := (List.getElem?_eq_some_iff.1 hi).1
      refine ⟨?_, hil⟩
      cases h5 with
      | nil => simp; omega
      | cons => have := (e5 (by simp)).1; simp at this ⊢; omega
    · rcases e6 i' j' k hk with h | ⟨S', hS', hk'⟩
      · split at h
        · exact .inr ⟨_, by simp, h⟩
        · exact .inl h
      · exact .inr ⟨S', by simp [hS'], hk'⟩
theorem buildRows_sound {ex : Bool} {tm : List Value} {sz : Nat} {h0 : Heap} {g0 : Gh} (hpos : 0 < sz) (R0 : Rel w wr h0 g0) : ∀ {l : List (Nat × Value)} {m : List (Nat × AV)} {rows : Rows} {cs : Array Value} {f : Nat → Nat → BS} {st : St} {g : Gh} {k : Rows → St → R},
    buildRows ex sz m rows st k = some res → PartsR w h0 g0 l m → Good w wr ts tm st g → Less w h0 g0 st.heap g → (ex = true → st.heap = h0 ∧ g = g0) → Grid w wr st.heap g ex sz rows cs f → rows.length * sz = cs.size →
    ∃ rows' cs' f' st' g', k rows' st' = some res ∧ Good w wr ts tm st' g' ∧ Grid w wr st'.heap g' ex sz rows' cs' f' ∧ rows'.length = rows.length ∧ rows'.length * sz = cs'.size ∧ Instr.fill (fun i => some (i * sz, sz)) cs l = some cs'
  | [], _, rows, cs, f, st, g, k, hh, .nil, G, _, _, D, hsz => ⟨rows, cs, f, st, g, hh, G, D, rfl, hsz, rfl⟩
  | (i, v) :: l, (_, av) :: m, rows, cs, f, st, g, k, hh, .cons h1 h2, G, L, hs, D, hsz => by
    simp only [buildRows] at hh
    obtain ⟨pl, hh, hv, hpl, hvn, _⟩ := partsN_sound R0 hh h1
    obtain ⟨cl, Ss, st1, g1, hh, Is, same⟩ := part_in hh G L hs hv
    have D1 := D.move Is.less (fun he => by obtain ⟨e1, e2⟩ := same he; subst e1 e2; exact ⟨rfl, rfl⟩)
    obtain ⟨rows1, cs1, f1, hh, D2, e3, e4, e5, e6⟩ := Grid.sets hh D1 hsz Is.hand (fun S hS i' j' k hk hk' => by
      obtain ⟨r, x, hx, _, hF⟩ := Is.was S hS k hk'
      exact (D.apart i' j' k hk).2 r x hx hF)
    have hsz1 : cs1.size = cs.size := by
      rw [← Array.length_toList, e4, putAt_length, Array.length_toList]
    obtain ⟨rows2, cs2, f2, st2, g2, k1, k2, k3, k4, k5, k6⟩ := buildRows_sound hpos R0 hh h2 Is.good (L.trans Is.less) (fun he => by
      obtain ⟨a1, a2⟩ := same he
      obtain ⟨a3, a4⟩ := hs he
      subst a1 a2
      exact ⟨a3, a4⟩) D2 (by rw [e3, hsz1]; exact hsz)
    refine ⟨rows2, cs2, f2, st2, g2, k1, k2, k3, by rw [k4, e3], k5, ?_⟩
    simp only [Instr.fill]
    have hne : v.cells.toList ≠ [] := fun e => by
      have : v.cells.size = 0 := by rw [← Array.length_toList, e]; rfl
      omega
    obtain ⟨hb1, hb2⟩ := e5 hne
    rw [Array.length_toList, hvn] at hb1
    have hbound : i * sz + v.cells.size ≤ cs.size := by
      rw [← hsz, hvn]
      have : (i + 1) * sz ≤ rows.length * sz := Nat.mul_le_mul_right _ (by omega)
      rw [Nat.succ_mul] at this
      exact this
    have hcs : (v.cells.zipIdx.foldl (fun cs (x : Value × Nat) => cs.setIfInBounds (i * sz + x.2) x.1) cs) = cs1 := by
      apply Array.toList_inj.1
      rw [e4, ← Array.foldl_toList, Array.toList_zipIdx]
      simpa using foldl_putAt (i * sz) v.cells.toList 0 cs
    rw [if_neg]
    · have := k6
      rw [← hcs] at this
      exact this
    · simp only [ne_eq, Bool.or_eq_true, decide_eq_true_eq, not_or, Decidable.not_not]
      exact ⟨hvn, by omega⟩
theorem copies_inv {n : Nat} {z : List AV} {k : Rows → R} (h : copies n z k = some res) : k (List.replicate n z) = some res := by
  induction n generalizing k with
  | zero => exact h
  | succ n ih => simpa [List.replicate_succ] using ih h
theorem ev_buildSlice (hT : TysOK P cfg.ty) {t : TypeId} {n : Nat} {ps : Array (Nat × Operand)} {Q : Exit → Act → World → Prop} (ho : o.op = .buildSlice t n ps) (h : evOp cfg lv slot o st c = some res) (I : Inv C ts w a st wr g) : o.wp P a w (Post C ts c res) Q := by
  simp only [evOp, ho] at h
  obtain ⟨ti, hti, h⟩ := tyK_inv h
  obtain ⟨d, hd, hsh⟩ := (hT _ hti).run (w := w)
  simp only at hd hsh
  split at h
  · rename_i e hs
    rw [hs] at hsh
    simp only [ShOK] at hsh
    subst hsh
    obtain ⟨tj, htj, h⟩ := tyK_inv h
    obtain ⟨m, h, hm⟩ := parts_sound I.good.env h
    split at h
    · cases h
    · rename_i hsmall
      simp only [decide_eq_true_eq] at hsmall
      have h := copies_inv h
      obtain ⟨ii, z, hi1, hi2, hi3, hi4, hzc, _, _⟩ := (hT _ htj).zeros
      have hpos := (hT _ htj).pos
      simp only at hi1 hi2 hi3 hzc hpos
      have e1 : (ps.map fun (i, x) => (i, a.eval x)).toList = ps.toList.map fun x => (x.1, a.eval x.2) := by simp
      have fin : ∀ ex : Bool, (buildRows ex tj.size m (List.replicate n tj.zero) st fun rows st => newRoot st slot ⟨false, false, ex, tj.size, rows⟩ fun st => putD st o.dst (.ref slot []) c) = some res → o.wp P a w (Post C ts c res) Q := by
        intro ex h
        have D := zero_grid (w := w) (wr := wr) (g := g) (hT _ htj) (h := st.heap) hi1 hi4 n n (Nat.le_refl _) ex
        obtain ⟨rows', cs', f', st', g', h, G', D', k4, k5, k6⟩ := buildRows_sound hpos I.good.rel h hm I.good .refl (fun _ => ⟨rfl, rfl⟩) D (by simp)
        obtain ⟨hsl, h⟩ := newRoot_inv h
        simp only [List.length_replicate] at k4
        obtain ⟨g2, k7, k8, _⟩ := G'.block (e := e) hsl n D' (by omega) (by rw [← k5, k4]; exact Nat.le_refl _) (fun _ => k4.symm) hpos
        rw [k4] at k8
        have I' : Inv C ts w a st' wr g' := ⟨G', I.fr, I.can, I.dom, I.nodef⟩
        refine wp_value (s := Instr.buildSlice t n (ps.map fun (i, x) => (i, a.eval x))) (v := .slice (some ⟨w.heap.size, 0, none⟩) n n) (by simp only [execOp, ho]) ?_ ((I'.alloc k7).put h (.ref k8))
        by_cases h0 : n * tj.size = 0
        · have e2 : cs' = #[] := by
            have : cs'.size = 0 := by rw [← k5, k4]; exact h0
            exact Array.eq_empty_of_size_eq_zero this
          subst e2
          have e3 : ((Array.range (n * tj.size)).map (z.cells[· % z.cells.size]!)) = #[] := by simp [h0]
          rw [e3] at k6
          have hn : n = 0 := by
            rcases Nat.mul_eq_zero.1 h0 with h | h
            · exact h
            · omega
          subst hn
          simp [Instr.buildSlice, hd, sizeOf, typeInfo, hi1, newRow, hi2]
          have e5 : (Array.map (fun (_ : Nat) => (default : Value)) (Array.range 0)) = #[] := by simp
          rw [e5, k6]
          simp
        · have hi2' : ii.size = tj.size := hi2
          have := run_buildSlice (P := P) w t e n (ps.map fun (i, x) => (i, a.eval x)) cs' ii z (by
            obtain ⟨d', hd', hs'⟩ := (hT _ hti).under
            simp only [hs, ShOK] at hd' hs'
            subst hs'
            exact hd') hi1 hi4 (by rw [hi2']; omega) (by rw [hi2']; exact h0) (by rw [hi2', e1]; exact k6)
          exact this
      split at h
      · exact fin true h
      · exact fin false h
  · cases h
end
end Go.Abs

/- Soundness 48: conversions between bytes and strings. -/
namespace Go.Abs
section
variable {P : Program} {cfg : Cfg} {lv : Lev} {C : Ctx} {ts : List (List Value)} {w w' : World} {a : Act} {st : St} {wr : Wrs} {g : Gh} {c : St → R} {res : Res} {o : Oper} {slot : Nat}

theorem isBytes_all {rows : Rows} (h : isBytes rows = true) : ∀ row ∈ rows, ∃ n, row = [.int .u8 n] := by
  intro row hr
  have := List.all_eq_true.1 h row hr
  split at this
  · exact ⟨_, rfl⟩
  · cases this
/-- a list of bytes, read as a string -/
theorem TR.bytes {own : Bool} {K : CS} {S : BS} {v : Value} {rows : Rows} (T : TR w own K S v (.lst 1 rows)) (hb : isBytes rows = true) {src dst e : TypeId} (hs : P.underlying src = some (.slice e)) (he : P.underlying e = some (.int .u8)) (hd : P.underlying dst = some .string) :
    (convert src dst v).run P w = .ok (.string (strNums (nums rows))) w := by
  rcases T.lst_inv with ⟨rfl, aa, rfl⟩ | ⟨b, o, c, cs, e', fz, f, rfl, hb', hs', hc, hl, hK, hS, hf, hd', hcell⟩
  · cases aa with
    | none => exact run_convert_bytes_nil w src e hs he 0 0 dst hd
    | some ad =>
      rw [run_convert_bytes_string w src dst e _ 0 0 hs he hd]
      have := run_bytesToString (P := P) w ad 0 0 [] (by simpa using run_loadCells_list (P := P) w ad [] (fun j v hj => by simp at hj))
      have e0 : strNums (nums []) = ByteArray.empty := rfl
      rw [e0]
      simpa using this
  · have := run_convert_bytes_arg (P := P) w src e hs he b o rows.length c (nums rows) (by simp [nums]) (fun i hi => by
      have hr : rows[i]? = some rows[i] := List.getElem?_eq_getElem hi
      obtain ⟨n, hn⟩ := isBytes_all hb _ (mem_get hr)
      have hcl := hcell i 0 rows[i] (.int .u8 n) hr (by rw [hn]; rfl)
      have hq : o + i < cs.size := by omega
      have e1 : cs.getD (o + i * 1 + 0) default = .int .u8 n := by
        generalize cs.getD (o + i * 1 + 0) default = x at hcl
        cases hcl
        rfl
      rw [cell_of hb']
      have e2 : cs[o + i]? = some (cs.getD (o + i) default) := by simp [Array.getD_eq_getD_getElem?, hq]
      rw [e2]
      simp only [Nat.mul_one, Nat.add_zero] at e1
      rw [e1]
      have e3 : (nums rows).getD i 0 = n := by
        simp [nums, List.getD_eq_getElem?_getD, hi, hn]
      rw [e3]) dst hd
    exact this
theorem ev_convert (hT : TysOK P cfg.ty) {s d : TypeId} {x : Operand} {Q : Exit → Act → World → Prop} (ho : o.op = .convert s d x) (h : evOp cfg lv slot o st c = some res) (I : Inv C ts w a st wr g) : o.wp P a w (Post C ts c res) Q := by
  simp only [evOp, ho] at h
  obtain ⟨ti, hti, h⟩ := tyK_inv h
  obtain ⟨av, h, H⟩ := opnd_sound h I.good.env
  unfold convOp at h
  obtain ⟨tj, htj, h⟩ := tyK_inv h
  obtain ⟨d1, hd1, hsh1⟩ := (hT _ hti).under
  obtain ⟨d2, hd2, hsh⟩ := (hT _ htj).under
  simp only at hd1 hd2 hsh1 hsh
  split at h
  · rename_i kd kd' n hs _
    rw [hs] at hsh
    simp only [ShOK] at hsh
    subst hsh
    generalize hx : a.eval x = vx at H
    cases H
    refine wp_value (s := convert s d (a.eval x)) (v := .int kd (kd.wrap n)) (w' := w) (by simp only [execOp, ho]) ?_ (I.put h (.int _ _))
    rw [hx]
    simp only [convert, Sem.run_bind, run_underlying hd1, run_underlying hd2, Result.andThen_ok]
    rfl
  · rename_i e s' hs _
    rw [hs] at hsh
    simp only [ShOK] at hsh
    subst hsh
    split at h
    · rename_i hs1
      rw [hs1] at hsh1
      simp only [ShOK] at hsh1
      subst hsh1
      obtain ⟨te, hte, h⟩ := tyK_inv h
      obtain ⟨de, hde, hshe⟩ := (hT _ hte).under
      simp only at hde hshe
      split at h
      · rename_i hse
        rw [hse] at hshe
        simp only [ShOK] at hshe
        subst hshe
        generalize hx : a.eval x = vx at H
        cases H
        obtain ⟨hsl, h⟩ := newRoot_inv h
        have hrun := run_bytes_of_string (P := P) w s d e s' hd1 hd2 hde
        have Gd := (bytes_cells (w := w.drew) (K := Kr w.drew wr false) s').grid (h := st.heap) (g := g) (fun _ h => h.elim) (Array.replicate (grownCap w s'.size 0 e - s'.size) (.int .u8 0))
        have ecs : (byteCells s').toArray ++ Array.replicate (grownCap w s'.size 0 e - s'.size) (Value.int .u8 0) = bytesRow s' (grownCap w s'.size 0 e) := by
          apply Array.toList_inj.1
          simp [byteCells, bytesRow]
        rw [ecs] at Gd
        have hcap := grownCap_ge w s'.size 0 e
        have hsize : (bytesRow s' (grownCap w s'.size 0 e)).size = grownCap w s'.size 0 e := by
          simp only [bytesRow, Array.size_append, Array.size_map, Array.size_replicate]
          show s'.size + _ = _
          omega
        have hlen : (List.map (fun b => [AV.int IntKind.u8 (b.toNat : Int)]) s'.data.toList).length = s'.size := by rw [List.length_map, Array.length_toList]; rfl
        obtain ⟨g', k1, k2, _⟩ := (Good.heap (w := w) (w' := w.drew) rfl I.good).blockF (e := e) hsl (grownCap w s'.size 0 e) ((bytesRow s' (grownCap w s'.size 0 e)).size, (bytesRow s' (grownCap w s'.size 0 e)).size + 1) (fun q hq => by rw [hsize]; simp only; omega) Gd (by rw [hlen]; exact hcap) (by rw [hsize]; omega) (fun h => by cases h) (by decide)
        rw [hlen] at k2
        refine wp_value (s := convert s d (a.eval x)) (by simp only [execOp, ho]) (by rw [hx]; exact hrun) ?_
        have I' : Inv C ts w.drew a st wr g := I.drew
        exact (I'.alloc k1).put h (.ref k2)
      · cases h
    · cases h
  · rename_i hs _
    rw [hs] at hsh
    simp only [ShOK] at hsh
    subst hsh
    split at h
    · rename_i e hs1
      rw [hs1] at hsh1
      simp only [ShOK] at hsh1
      subst hsh1
      obtain ⟨te, hte, h⟩ := tyK_inv h
      obtain ⟨de, hde, hshe⟩ := (hT _ hte).under
      simp only at hde hshe
      split at h
      · rename_i hse
        rw [hse] at hshe
        simp only [ShOK] at hshe
        subst hshe
        obtain ⟨av', h, T⟩ := VR.closed I.good.rel h H
        split at h
        · split at h
          · rename_i h1
            simp only [decide_eq_true_eq] at h1
            subst h1
            rcases br_inv h with ⟨hb, h⟩ | ⟨_, h⟩
            · exact wp_value (s := convert s d (a.eval x)) (by simp only [execOp, ho]) (TR.bytes T hb hd1 hde hd2) (I.put h (.str _))
            · cases h
          · cases h
        · cases h
      · cases h
    · cases h
  · cases h
end
end Go.Abs

/- Soundness 49: the values of operations that change nothing. -/
namespace Go.Abs

theorem opnd_cases (e : List AV) (x : Operand) : (∀ k, opnd e x k = none) ∨ ∃ a, ∀ k, opnd e x k = k a := by
  cases x with
  | tmp t =>
    simp only [opnd]
    induction e generalizing t with
    | nil => exact .inl fun _ => rfl
    | cons a l ih => cases t with
      | zero => exact .inr ⟨a, fun _ => rfl⟩
      | succ t => exact ih t
  | const v =>
    cases v <;> first
      | exact .inr ⟨_, fun _ => rfl⟩
      | exact .inl fun _ => rfl
      | skip
    case pointer a => cases a with
      | none => exact .inr ⟨_, fun _ => rfl⟩
      | some a => exact .inl fun _ => rfl
    case slice a l c =>
      cases a with
      | some a => exact .inl fun _ => rfl
      | none => cases l with
        | succ l => exact .inl fun _ => rfl
        | zero => cases c with
          | succ c => exact .inl fun _ => rfl
          | zero => exact .inr ⟨.emp, fun _ => rfl⟩
  | func f => exact .inr ⟨_, fun _ => rfl⟩
  | global g => exact .inl fun _ => rfl
theorem opnds_cases (e : List AV) : ∀ (l : List Operand), (∀ k, opnds e l k = none) ∨ ∃ a, ∀ k, opnds e l k = k a
  | [] => .inr ⟨[], fun _ => rfl⟩
  | x :: l => by
    rcases opnd_cases e x with h | ⟨a, h⟩
    · exact .inl fun k => by simp only [opnds, h]
    · rcases opnds_cases e l with h2 | ⟨b, h2⟩
      · exact .inl fun k => by simp only [opnds, h, h2]
      · exact .inr ⟨a :: b, fun k => by simp only [opnds, h, h2]⟩
theorem tyK_cases (l : List (TypeId × TInfo)) (t : TypeId) : (∀ k, tyK l t k = none) ∨ ∃ a, ∀ k, tyK l t k = k a := by
  induction l with
  | nil => exact .inl fun _ => rfl
  | cons a l ih =>
    obtain ⟨t', x⟩ := a
    by_cases h : t' = t
    · exact .inr ⟨x, fun k => by simp only [tyK, if_pos h]⟩
    · rcases ih with h2 | ⟨b, h2⟩
      · exact .inl fun k => by simp only [tyK, if_neg h, h2]
      · exact .inr ⟨b, fun k => by simp only [tyK, if_neg h, h2]⟩
theorem getE_cases (l : List AV) (n : Nat) : (∀ k, getE l n k = none) ∨ ∃ a, ∀ k, getE l n k = k a := by
  induction l generalizing n with
  | nil => exact .inl fun _ => rfl
  | cons a l ih => cases n with
    | zero => exact .inr ⟨a, fun _ => rfl⟩
    | succ n => exact ih n
theorem getRow_cases (l : Rows) (n : Nat) : (∀ k, getRow l n k = none) ∨ ∃ a, ∀ k, getRow l n k = k a := by
  induction l generalizing n with
  | nil => exact .inl fun _ => rfl
  | cons a l ih => cases n with
    | zero => exact .inr ⟨a, fun _ => rfl⟩
    | succ n => exact ih n
theorem getH_cases (l : Heap) (n : Nat) : (∀ k, getH l n k = none) ∨ ∃ a, ∀ k, getH l n k = k a := by
  induction l generalizing n with
  | nil => exact .inl fun _ => rfl
  | cons a l ih => cases n with
    | zero => cases a with
      | none => exact .inl fun _ => rfl
      | some x => exact .inr ⟨x, fun _ => rfl⟩
    | succ n => exact ih n
theorem navR_cases (p : Path) : ∀ (sz : Nat) (rows : Rows), (∀ k, navR0 p sz rows k = none) ∨ ∃ a b, ∀ k, navR0 p sz rows k = k a b := by
  induction p with
  | nil => exact fun sz rows => .inr ⟨sz, rows, fun _ => rfl⟩
  | cons q p ih =>
    intro sz rows
    obtain ⟨i, j⟩ := q
    rcases getRow_cases rows i with h | ⟨row, h⟩
    · exact .inl fun k => by simp only [navR0, h]
    · rcases getE_cases row j with h2 | ⟨v, h2⟩
      · exact .inl fun k => by simp only [navR0, h, h2]
      · cases v with
        | lst sz' rows' =>
          rcases ih sz' rows' with h3 | ⟨a, b, h3⟩
          · exact .inl fun k => by simp only [navR0, h, h2, h3]
          · exact .inr ⟨a, b, fun k => by simp only [navR0, h, h2, h3]⟩
        | _ => exact .inl fun k => by simp only [navR0, h, h2]
theorem nav_cases (h : Heap) (r : Nat) (p : Path) : (∀ k, nav h r p k = none) ∨ ∃ x a b, ∀ k, nav h r p k = k x a b := by
  rcases getH_cases h r with h1 | ⟨x, h1⟩
  · exact .inl fun k => by simp only [nav, h1]
  · rcases navR_cases p x.sz x.rows with h2 | ⟨a, b, h2⟩
    · exact .inl fun k => by simp only [nav, navT_eq, h1, h2]
    · exact .inr ⟨x, a, b, fun k => by simp only [nav, navT_eq, h1, h2]⟩
theorem dropK_cases (n : Nat) : ∀ (l : List AV), (∀ k, dropK n l k = none) ∨ ∃ a, ∀ k, dropK n l k = k a := by
  induction n with
  | zero => exact fun l => .inr ⟨l, fun _ => rfl⟩
  | succ n ih => intro l; cases l with
    | nil => exact .inl fun _ => rfl
    | cons a l => exact ih l
theorem cut_cases (n : Nat) : ∀ (l : List AV), (∀ k, cut n l k = none) ∨ ∃ a b, ∀ k, cut n l k = k a b := by
  induction n with
  | zero => exact fun l => .inr ⟨[], l, fun _ => by simp [cut]⟩
  | succ n ih => intro l; cases l with
    | nil => exact .inl fun _ => rfl
    | cons a l =>
      rcases ih l with h | ⟨x, y, h⟩
      · exact .inl fun k => by simp only [cut, h]
      · exact .inr ⟨a :: x, y, fun k => by simp only [cut, h]⟩
theorem snoc_cases (p : Path) (i j : Nat) : ∃ a, ∀ k, snoc p i j k = k a := by
  induction p with
  | nil => exact ⟨_, fun _ => rfl⟩
  | cons a p ih => obtain ⟨q, h⟩ := ih; exact ⟨a :: q, fun k => by simp only [snoc, h]⟩
theorem loadCell_cases (r : Nat) (p : Path) (i j : Nat) (v : AV) : (∀ k, loadCell r p i j v k = none) ∨ ∃ a, ∀ k, loadCell r p i j v k = k a := by
  cases v <;> first
    | exact .inl fun _ => rfl
    | exact .inr ⟨_, fun _ => rfl⟩
    | skip
  obtain ⟨q, h⟩ := snoc_cases p i j
  exact .inr ⟨.ref r q, fun k => by simp only [loadCell, h]⟩
theorem loadN_cases (r : Nat) (p : Path) (i : Nat) (n : Nat) : ∀ (j : Nat) (l : List AV), (∀ k, loadN r p i n j l k = none) ∨ ∃ a, ∀ k, loadN r p i n j l k = k a := by
  induction n with
  | zero => exact fun j l => .inr ⟨[], fun _ => by simp [loadN]⟩
  | succ n ih => intro j l; cases l with
    | nil => exact .inl fun _ => rfl
    | cons v l =>
      rcases loadCell_cases r p i j v with h | ⟨a, h⟩
      · exact .inl fun k => by simp only [loadN, h]
      · rcases ih (j + 1) l with h2 | ⟨b, h2⟩
        · exact .inl fun k => by simp only [loadN, h, h2]
        · exact .inr ⟨a :: b, fun k => by simp only [loadN, h, h2]⟩
theorem loadT_cases (cfg : Cfg) (t : TypeId) (h : Heap) (a : AV) : (∀ k, loadT cfg t h a k = none) ∨ ∃ v, ∀ k, loadT cfg t h a k = k v := by
  cases a <;> first
    | exact .inl fun _ => rfl
    | skip
  rename_i r p i j
  rcases nav_cases h r p with h1 | ⟨x, sz, rows, h1⟩
  · exact .inl fun k => by simp only [loadT, h1]
  · rcases getRow_cases rows i with h2 | ⟨row, h2⟩
    · exact .inl fun k => by simp only [loadT, h1, h2]
    · rcases dropK_cases j row with h3 | ⟨row', h3⟩
      · exact .inl fun k => by simp only [loadT, h1, h2, h3]
      · rcases tyK_cases cfg.ty t with h4 | ⟨ti, h4⟩
        · exact .inl fun k => by simp only [loadT, h1, h2, h3, h4]
        · by_cases hs : ∃ fs, ti.shape = .struct fs
          · obtain ⟨fs, hs⟩ := hs
            rcases loadN_cases r p i ti.size j row' with h5 | ⟨vs, h5⟩
            · exact .inl fun k => by simp only [loadT, h1, h2, h3, h4, hs, h5]
            · exact .inr ⟨.agg vs, fun k => by simp only [loadT, h1, h2, h3, h4, hs, h5]⟩
          · cases row' with
            | nil =>
              refine .inl fun k => ?_
              simp only [loadT, h1, h2, h3, h4]
              split
              · rename_i fs hf; exact absurd ⟨fs, hf⟩ hs
              · rfl
            | cons v l =>
              have key : ∀ k, loadT cfg t h (.ptr r p i j) k = loadCell r p i j v k := by
                intro k
                simp only [loadT, h1, h2, h3, h4]
                split
                · rename_i fs hf; exact absurd ⟨fs, hf⟩ hs
                · rfl
              rcases loadCell_cases r p i j v with h5 | ⟨a, h5⟩
              · exact .inl fun k => by rw [key]; exact h5 k
              · exact .inr ⟨a, fun k => by rw [key]; exact h5 k⟩
theorem elemSz_cases (cfg : Cfg) (t : TypeId) : (∀ k, elemSz cfg t k = none) ∨ ∃ n, ∀ k, elemSz cfg t k = k n := by
  rcases tyK_cases cfg.ty t with h | ⟨x, h⟩
  · exact .inl fun k => by simp only [elemSz, h]
  · cases hs : x.shape with
    | slice e =>
      rcases tyK_cases cfg.ty e with h2 | ⟨y, h2⟩
      · exact .inl fun k => by simp only [elemSz, h, hs, h2]
      · exact .inr ⟨y.size, fun k => by simp only [elemSz, h, hs, h2]⟩
    | _ => exact .inr ⟨0, fun k => by simp only [elemSz, h, hs]⟩
theorem elemT_cases (cfg : Cfg) (t : TypeId) : (∀ k, elemT cfg t k = none) ∨ ∃ n, ∀ k, elemT cfg t k = k n := by
  rcases tyK_cases cfg.ty t with h | ⟨x, h⟩
  · exact .inl fun k => by simp only [elemT, h]
  · cases hs : x.shape with
    | slice e =>
      rcases tyK_cases cfg.ty e with h2 | ⟨y, h2⟩
      · exact .inl fun k => by simp only [elemT, h, hs, h2]
      · exact .inr ⟨y.size, fun k => by simp only [elemT, h, hs, h2]⟩
    | _ => exact .inl fun k => by simp only [elemT, h, hs]
theorem slice3_cases (h : Heap) (v : AV) : (∀ k, slice3 h v k = none) ∨ ∃ a b c d e f, ∀ k, slice3 h v k = k a b c d e f := by
  cases v <;> first
    | exact .inl fun _ => rfl
    | skip
  case ref r p =>
    rcases nav_cases h r p with h1 | ⟨x, sz, rows, h1⟩
    · exact .inl fun k => by simp only [slice3, h1]
    · exact .inr ⟨r, p, 0, rows.length, sz, rows, fun k => by simp only [slice3, h1]⟩
  case sub r p off len =>
    rcases nav_cases h r p with h1 | ⟨x, sz, rows, h1⟩
    · exact .inl fun k => by simp only [slice3, h1]
    · exact .inr ⟨r, p, off, len, sz, rows, fun k => by simp only [slice3, h1]⟩
theorem lenOf_cases (h : Heap) (v : AV) : (∀ k, lenOf h v k = none) ∨ ∃ a, ∀ k, lenOf h v k = k a := by
  cases v <;> first
    | exact .inl fun _ => rfl
    | exact .inr ⟨_, fun _ => rfl⟩
    | skip
  rename_i r p
  rcases nav_cases h r p with h1 | ⟨x, sz, rows, h1⟩
  · exact .inl fun k => by simp only [lenOf, h1]
  · exact .inr ⟨rows.length, fun k => by simp only [lenOf, h1]⟩

/-- what is handed on: always the same values, whatever comes behind -/
def Lin (X : (AV → R) → R) : Prop := (∀ k, X k = none) ∨ ∃ V : AV → Prop, (∃ v, V v) ∧ ∀ k res, X k = some res ↔ ∀ v, V v → k v = some res
theorem Lin.none' : Lin fun _ => none := .inl fun _ => rfl
theorem Lin.one (v : AV) : Lin fun k => k v := .inr ⟨(· = v), ⟨v, rfl⟩, fun k res => ⟨fun h u hu => by cases hu; exact h, fun h => h v rfl⟩⟩
theorem Lin.congr {X Y : (AV → R) → R} (h : Lin X) (e : ∀ k, Y k = X k) : Lin Y := by
  have : Y = X := funext e
  rw [this]; exact h
theorem Lin.br {b : Bool} {X Y : (AV → R) → R} (hx : Lin X) (hy : Lin Y) : Lin fun k => br b (X k) (Y k) := by
  cases b with
  | true => exact hx.congr fun k => br_true _ _
  | false => exact hy.congr fun k => br_false _ _
theorem both_iff {x y : R} {res : Res} : both x y = some res ↔ x = some res ∧ y = some res := by
  unfold both
  split
  · rename_i h; subst h; simp
  · rename_i h
    simp only [reduceCtorEq, false_iff, not_and]
    intro h1 h2
    exact h (h1.trans h2.symm)
theorem Lin.both {X Y : (AV → R) → R} (hx : Lin X) (hy : Lin Y) : Lin fun k => both (X k) (Y k) := by
  rcases hx with hx | ⟨V, ⟨v, hv⟩, hV⟩
  · refine .inl fun k => ?_
    cases h : Abs.both (X k) (Y k) with
    | none => exact h
    | some r => have := (both_iff.1 h).1; rw [hx] at this; cases this
  · rcases hy with hy | ⟨W, _, hW⟩
    · refine .inl fun k => ?_
      cases h : Abs.both (X k) (Y k) with
      | none => exact h
      | some r => have := (both_iff.1 h).2; rw [hy] at this; cases this
    · exact .inr ⟨fun u => V u ∨ W u, ⟨v, .inl hv⟩, fun k res => by
        rw [both_iff, hV, hW]
        exact ⟨fun h u hu => hu.elim (h.1 u) (h.2 u), fun h => ⟨fun u hu => h u (.inl hu), fun u hu => h u (.inr hu)⟩⟩⟩
theorem eqCells_cases : ∀ (x y : List AV), (∀ k, eqCells x y k = none) ∨ ∃ b, ∀ k, eqCells x y k = k b
  | [], [] => .inr ⟨true, fun _ => rfl⟩
  | [], _ :: _ => .inl fun _ => rfl
  | _ :: _, [] => .inl fun _ => rfl
  | a :: x, b :: y => by
    have ih := eqCells_cases x y
    cases a <;> cases b <;> first
      | exact .inl fun _ => rfl
      | skip
    all_goals
      first
        | (rename_i c m d n
           by_cases hcd : c = d
           · rcases ih with h | ⟨t, h⟩
             · exact .inl fun k => by simp only [eqCells, hcd, decide_true, h]
             · exact .inr ⟨m == n && t, fun k => by simp only [eqCells, hcd, decide_true, h]⟩
           · exact .inl fun k => by simp only [eqCells, hcd, decide_false])
        | (rename_i m n
           rcases ih with h | ⟨t, h⟩
           · exact .inl fun k => by simp only [eqCells, h]
           · exact .inr ⟨m == n && t, fun k => by simp only [eqCells, h]⟩)
theorem memT_cases (l : List TypeId) (t : TypeId) : (∀ k, memT l t k = none) ∨ ∀ k, memT l t k = k := by
  induction l with
  | nil => exact .inl fun _ => rfl
  | cons a l ih =>
    by_cases h : a = t
    · exact .inr fun k => by simp only [memT, if_pos h]
    · rcases ih with h2 | h2
      · exact .inl fun k => by simp only [memT, if_neg h, h2]
      · exact .inr fun k => by simp only [memT, if_neg h, h2]
theorem Lin.of {X : (AV → R) → R} (h : (∀ k, X k = none) ∨ ∃ a, ∀ k, X k = k a) : Lin X := by
  rcases h with h | ⟨a, h⟩
  · exact .inl h
  · exact (Lin.one a).congr h

end Go.Abs

/- Soundness 50: the value of an operation that changes nothing, for each kind. -/
namespace Go.Abs

theorem opnd_mono {e : List AV} {x : Operand} {k k' : AV → R} {res : Res} (h : opnd e x k = some res) (hk : ∀ v, k v = some res → k' v = some res) : opnd e x k' = some res := by
  rcases opnd_cases e x with h0 | ⟨a, h0⟩
  · rw [h0] at h; cases h
  · rw [h0] at h ⊢; exact hk a h
theorem opnds_mono {e : List AV} {x : List Operand} {k k' : List AV → R} {res : Res} (h : opnds e x k = some res) (hk : ∀ v, k v = some res → k' v = some res) : opnds e x k' = some res := by
  rcases opnds_cases e x with h0 | ⟨a, h0⟩
  · rw [h0] at h; cases h
  · rw [h0] at h ⊢; exact hk a h
theorem Lin.opnd {e : List AV} {x : Operand} {X : AV → (AV → R) → R} (h : ∀ v, Lin (X v)) : Lin fun k => opnd e x fun v => X v k := by
  rcases opnd_cases e x with h0 | ⟨a, h0⟩
  · exact .inl fun k => h0 _
  · exact (h a).congr fun k => h0 _
theorem Lin.tyK {l : List (TypeId × TInfo)} {t : TypeId} {X : TInfo → (AV → R) → R} (h : ∀ v, Lin (X v)) : Lin fun k => tyK l t fun v => X v k := by
  rcases tyK_cases l t with h0 | ⟨a, h0⟩
  · exact .inl fun k => h0 _
  · exact (h a).congr fun k => h0 _

theorem cl0_cases (h : Heap) (esz : Nat) (v : AV) : (∀ k, cl0 h esz v k = none) ∨ ∃ a, ∀ k, cl0 h esz v k = k a := by
  cases v with
  | ref r p =>
    rcases nav_cases h r p with h1 | ⟨x, sz, rows, h1⟩
    · exact .inl fun k => by simp only [cl0, h1]
    · by_cases hb : x.box = true ∧ p = []
      · obtain ⟨hb, rfl⟩ := hb
        exact .inl fun k => by simp only [cl0, h1, hb]
      · refine .inr ⟨.lst sz rows, fun k => ?_⟩
        simp only [cl0, h1]
        split
        · rename_i e1; exact absurd ⟨e1, rfl⟩ hb
        · rfl
  | sub r p off len =>
    rcases nav_cases h r p with h1 | ⟨x, sz, rows, h1⟩
    · exact .inl fun k => by simp only [cl0, h1]
    · by_cases hb : x.box = true ∧ p = []
      · obtain ⟨hb, rfl⟩ := hb
        exact .inl fun k => by simp only [cl0, h1, hb]
      · refine .inr ⟨.lst sz ((rows.drop off).take len), fun k => ?_⟩
        simp only [cl0, h1]
        split
        · rename_i e1; exact absurd ⟨e1, rfl⟩ hb
        · rfl
  | _ => first
    | exact .inl fun _ => rfl
    | exact .inr ⟨_, fun _ => rfl⟩
theorem clL0_cases (h : Heap) (esz : Nat) : ∀ (l : List AV), (∀ k, clL0 h esz l k = none) ∨ ∃ a, ∀ k, clL0 h esz l k = k a
  | [] => .inr ⟨[], fun _ => rfl⟩
  | v :: l => by
    rcases cl0_cases h esz v with h1 | ⟨a, h1⟩
    · exact .inl fun k => by simp only [clL0, h1]
    · rcases clL0_cases h esz l with h2 | ⟨b, h2⟩
      · exact .inl fun k => by simp only [clL0, h1, h2]
      · exact .inr ⟨a :: b, fun k => by simp only [clL0, h1, h2]⟩
theorem clP_cases (h : Heap) (n : Nat) (v : AV) : (∀ k, clP h n v k = none) ∨ ∃ a, ∀ k, clP h n v k = k a := by
  cases v with
  | ptr r p i j =>
    cases n with
    | zero => exact .inl fun _ => rfl
    | succ n =>
      rcases nav_cases h r p with h1 | ⟨x, sz, rows, h1⟩
      · exact .inl fun k => by simp only [clP, h1]
      · rcases getRow_cases rows i with h2 | ⟨row, h2⟩
        · exact .inl fun k => by simp only [clP, h1, h2]
        · rcases dropK_cases j row with h3 | ⟨row', h3⟩
          · exact .inl fun k => by simp only [clP, h1, h2, h3]
          · rcases cut_cases (n + 1) row' with h4 | ⟨x, y, h4⟩
            · exact .inl fun k => by simp only [clP, h1, h2, h3, h4]
            · rcases clL0_cases h 0 x with h5 | ⟨z, h5⟩
              · exact .inl fun k => by simp only [clP, h1, h2, h3, h4, h5]
              · exact .inr ⟨.pv z, fun k => by simp only [clP, h1, h2, h3, h4, h5]⟩
  | nilp => exact .inr ⟨.nilp, fun _ => rfl⟩
  | _ => exact .inl fun _ => rfl
theorem clC_cases (h : Heap) : ∀ (l : List AV), (∀ k, clC h l k = none) ∨ ∃ a, ∀ k, clC h l k = k a
  | [] => .inr ⟨[], fun _ => rfl⟩
  | v :: l => by
    have one : ∀ X : (AV → R) → R, ((∀ k, X k = none) ∨ ∃ a, ∀ k, X k = k a) → (∀ k, clC h (v :: l) k = X fun v => clC h l fun l => k (v :: l)) → (∀ k, clC h (v :: l) k = none) ∨ ∃ a, ∀ k, clC h (v :: l) k = k a := by
      intro X hX e
      rcases hX with h1 | ⟨a, h1⟩
      · exact .inl fun k => by rw [e, h1]
      · rcases clC_cases h l with h2 | ⟨b, h2⟩
        · exact .inl fun k => by rw [e, h1, h2]
        · exact .inr ⟨a :: b, fun k => by rw [e, h1, h2]⟩
    have plain : (∀ k, clC h (v :: l) k = cl0 h 0 v fun v => clC h l fun l => k (v :: l)) → (∀ k, clC h (v :: l) k = none) ∨ ∃ a, ∀ k, clC h (v :: l) k = k a := fun e => one _ (cl0_cases h 0 v) e
    cases v with
    | ptr r p i j =>
      cases p with
      | cons q p => exact .inl fun _ => rfl
      | nil => cases i with
        | succ i => exact .inl fun _ => rfl
        | zero => cases j with
          | succ j => exact .inl fun _ => rfl
          | zero =>
            rcases nav_cases h r [] with h1 | ⟨x, n, rows, h1⟩
            · exact .inl fun k => by simp only [clC, h1]
            · exact one _ (clP_cases h n (.ptr r [] 0 0)) fun k => by simp only [clC, h1]
    | _ => exact plain fun k => rfl
theorem cl1_cases (cfg : Cfg) (h : Heap) (t : TypeId) (v : AV) : (∀ k, cl1 cfg h t v k = none) ∨ ∃ a, ∀ k, cl1 cfg h t v k = k a := by
  have plain : (∀ k, cl1 cfg h t v k = elemSz cfg t fun esz => cl0 h esz v k) → (∀ k, cl1 cfg h t v k = none) ∨ ∃ a, ∀ k, cl1 cfg h t v k = k a := by
    intro e
    rcases elemSz_cases cfg t with h1 | ⟨n, h1⟩
    · exact .inl fun k => by rw [e, h1]
    · rcases cl0_cases h n v with h2 | ⟨a, h2⟩
      · exact .inl fun k => by rw [e, h1, h2]
      · exact .inr ⟨a, fun k => by rw [e, h1, h2]⟩
  cases v with
  | agg cs =>
    rcases clL0_cases h 0 cs with h1 | ⟨a, h1⟩
    · exact .inl fun k => by simp only [cl1, h1]
    · exact .inr ⟨.agg a, fun k => by simp only [cl1, h1]⟩
  | fn f cs =>
    rcases clC_cases h cs with h1 | ⟨a, h1⟩
    · exact .inl fun k => by simp only [cl1, h1]
    · exact .inr ⟨.fn f a, fun k => by simp only [cl1, h1]⟩
  | ptr r p i j =>
    rcases tyK_cases cfg.ty t with h1 | ⟨x, h1⟩
    · exact .inl fun k => by simp only [cl1, h1]
    · cases hs : x.shape with
      | ptr e =>
        rcases tyK_cases cfg.ty e with h2 | ⟨y, h2⟩
        · exact .inl fun k => by simp only [cl1, h1, hs, h2]
        · rcases clP_cases h y.size (.ptr r p i j) with h3 | ⟨a, h3⟩
          · exact .inl fun k => by simp only [cl1, h1, hs, h2, h3]
          · exact .inr ⟨a, fun k => by simp only [cl1, h1, hs, h2, h3]⟩
      | _ => exact .inl fun k => by simp only [cl1, h1, hs]
  | _ => exact plain fun k => rfl
theorem clArgs_cases (cfg : Cfg) (h : Heap) : ∀ (ts : List TypeId) (l : List AV), (∀ k, clArgs cfg h ts l k = none) ∨ ∃ a, ∀ k, clArgs cfg h ts l k = k a
  | [], [] => .inr ⟨[], fun _ => rfl⟩
  | [], _ :: _ => .inl fun _ => rfl
  | _ :: _, [] => .inl fun _ => rfl
  | t :: ts, v :: l => by
    rcases cl1_cases cfg h t v with h1 | ⟨a, h1⟩
    · exact .inl fun k => by simp only [clArgs, h1]
    · rcases clArgs_cases cfg h ts l with h2 | ⟨b, h2⟩
      · exact .inl fun k => by simp only [clArgs, h1, h2]
      · exact .inr ⟨a :: b, fun k => by simp only [clArgs, h1, h2]⟩
theorem bnd_cases (x : R) : (∀ k, bnd x k = none) ∨ ∃ a, x = some a ∧ ∀ k, bnd x k = k a := by
  cases x with
  | none => exact .inl fun k => bnd_none k
  | some a => exact .inr ⟨a, rfl, fun k => bnd_some _ _⟩

section
variable {P : Program} {cfg : Cfg} {lv : Lev} {o : Oper} {slot : Nat} {st : St} {c : St → R} {res : Res}

/-- what is evaluated where the order is drawn is what is evaluated elsewhere -/
theorem valD_ev (h : valD cfg lv o st.env st.heap (fun v => putD st o.dst v c) = some res) : evOp cfg lv slot o st c = some res := by
  unfold valD at h
  unfold evOp
  split at h
  · rename_i x ho
    simp only [ho]
    exact opnd_mono h fun v hv => by
      cases v <;> first | exact hv | (cases hv; done)
  · rename_i x ho
    simp only [ho]
    exact opnd_mono h fun v hv => by
      cases v <;> first | exact hv | (cases hv; done)
  · rename_i ho; simp only [ho]; exact h
  · rename_i ho; simp only [ho]; exact h
  · rename_i ho; simp only [ho]; exact h
  · rename_i ho; simp only [ho]; exact h
  · rename_i ho; simp only [ho]; exact h
  · rename_i ho; simp only [ho]; exact h
  · rename_i ho; simp only [ho]; exact h
  · rename_i ho; simp only [ho]; exact h
  · rename_i ho; simp only [ho]; exact h
  · rename_i ho; simp only [ho]; exact h
  · rename_i cl ho
    simp only [ho]
    refine opnds_mono h fun vs hv => ?_
    split at hv
    · rename_i b hb
      (try simp only [hb])
      split at hv
      · split at hv
        · rename_i t v ht
          simp only [builtinOp, ht]
          exact hv
        · cases hv
      · cases hv
    · rename_i fo hb
      (try simp only [hb])
      split at hv
      · rename_i f
        split at hv
        · rename_i hm
          simp only [opnd, callC, callF, hm]
          rcases clArgs_cases cfg st.heap cl.argTypes.toList vs with h1 | ⟨vs', h1⟩
          · rw [h1] at hv; cases hv
          · rw [h1] at hv ⊢
            rcases bnd_cases (lv.pure f vs') with h2 | ⟨r, _, h2⟩
            · rw [h2] at hv; cases hv
            · rw [h2] at hv ⊢
              obtain ⟨v, out⟩ := r
              cases v <;> first | exact hv | (cases hv; done)
        · cases hv
      · cases hv
    · cases hv
  · cases h

theorem intOp_lin (op : BinOp) (kd : IntKind) (a b : Int) : Lin (intOp op kd a b) := by
  cases op <;> first
    | exact Lin.one _
    | exact Lin.none'
    | exact Lin.br Lin.none' (Lin.one _)
theorem shOp_lin (op : BinOp) (kd : IntKind) (a b : Int) : Lin (shOp op kd a b) := by
  cases op <;> first
    | exact Lin.none'
    | exact Lin.br Lin.none' (Lin.one _)
theorem strOp_lin (op : BinOp) (a b : ByteArray) : Lin (strOp op a b) := by
  cases op <;> first
    | exact Lin.one _
    | exact Lin.none'
    | exact Lin.br (Lin.one _) Lin.none'
theorem eqOp_lin (cfg : Cfg) (t : TypeId) (h : Heap) (a b : AV) (m : Bool → AV) : Lin fun k => eqOp cfg t h a b fun v => k (m v) := by
  unfold eqOp
  refine Lin.tyK fun x => ?_
  have nilEq : ∀ c : Bool, Lin fun k => br c (both (k (m true)) (k (m false))) (k (m false)) := fun c => Lin.br (Lin.both (Lin.one _) (Lin.one _)) (Lin.one _)
  split
  · exact Lin.one _
  · rename_i ms ns _
    rcases memT_cases cfg.eqs t with h1 | h1
    · exact .inl fun k => h1 _
    · rcases eqCells_cases ms ns with h2 | ⟨b, h2⟩
      · exact .inl fun k => (h1 _).trans (h2 _)
      · exact (Lin.one (m b)).congr fun k => (h1 _).trans (h2 _)
  · exact Lin.one _
  · rename_i r p _
    rcases nav_cases h r p with h1 | ⟨x, sz, rows, h1⟩
    · exact .inl fun k => h1 _
    · exact (nilEq (decide (rows.length = 0))).congr fun k => h1 _
  · exact nilEq _
  · split
    · exact Lin.both (Lin.one _) (Lin.one _)
    · exact Lin.none'
  · exact Lin.one _
  · exact Lin.one _
  · exact Lin.one _
  · exact Lin.one _
  · exact Lin.none'
theorem binOp_lin (cfg : Cfg) (op : BinOp) (t : TypeId) (h : Heap) (a b : AV) : Lin (binOp cfg op t h a b) := by
  have e : ∀ X : (AV → R) → R, Lin X → (∀ k, binOp cfg op t h a b k = X k) → Lin (binOp cfg op t h a b) := fun X hX he => hX.congr he
  unfold binOp
  split
  · split
    · exact shOp_lin _ _ _ _
    · exact shOp_lin _ _ _ _
    · split
      · exact intOp_lin _ _ _ _
      · exact Lin.none'
  · exact strOp_lin _ _ _
  · split
    · exact eqOp_lin cfg t h _ _ fun b => .bool b
    · exact eqOp_lin cfg t h _ _ fun b => .bool !b
    · exact Lin.none'
theorem unOp_lin (op : UnOp) (a : AV) : Lin (unOp op a) := by
  unfold unOp
  split
  · exact Lin.one _
  · exact Lin.one _
  · exact Lin.none'
theorem nth_lin (l : List AV) (n : Nat) : Lin (nth l n) := Lin.of (getE_cases l n)
theorem idxK_lin (cfg : Cfg) (h : Heap) (t : TypeId) (v : AV) (i : Int) : Lin fun k => elemT cfg t fun esz => slice3 h v fun r p off len sz _ => match decide (sz = esz) with
      | true => br (decide (0 ≤ i)) (br (decide (i < (len : Int))) (match off with
        | 0 => k (.ptr r p i.toNat 0)
        | off => k (.ptr r p (off + i.toNat) 0)) none) none
      | false => none := by
  rcases elemT_cases cfg t with h1 | ⟨esz, h1⟩
  · exact .inl fun k => h1 _
  · rcases slice3_cases h v with h2 | ⟨r, p, off, len, sz, rows, h2⟩
    · exact .inl fun k => (h1 _).trans (h2 _)
    · refine Lin.congr ?_ (fun k => (h1 _).trans (h2 _))
      split
      · refine Lin.br (Lin.br ?_ Lin.none') Lin.none'
        split <;> exact Lin.one _
      · exact Lin.none'
theorem lenK_lin (h : Heap) (v : AV) : Lin fun k => match v with
    | .str _ => none
    | v => lenOf h v fun n => k (.int .i64 n) := by
  have main : Lin fun k => lenOf h v fun n => k (.int .i64 n) := by
    rcases lenOf_cases h v with h1 | ⟨n, h1⟩
    · exact .inl fun k => h1 _
    · exact (Lin.one (.int .i64 n)).congr fun k => h1 _
  cases v <;> first | exact Lin.none' | exact main
theorem pureK_lin (cfg : Cfg) (lv : Lev) (h : Heap) (ts : List TypeId) (vs : List AV) (f : FuncId) : Lin fun k => clArgs cfg h ts vs fun vs' => bnd (lv.pure f vs') fun res => match res.val with
          | .bool b => k (.bool b)
          | .int kd n => k (.int kd n)
          | .str s => k (.str s)
          | _ => none := by
  rcases clArgs_cases cfg h ts vs with h1 | ⟨vs', h1⟩
  · exact .inl fun k => h1 _
  · rcases bnd_cases (lv.pure f vs') with h2 | ⟨r, _, h2⟩
    · exact .inl fun k => (h1 _).trans (h2 _)
    · obtain ⟨v, out⟩ := r
      cases v <;> first
        | exact (Lin.one _).congr fun k => (h1 _).trans (h2 _)
        | exact .inl fun k => (h1 _).trans (h2 _)
theorem valD_lin (e : List AV) (h : Heap) : Lin (valD cfg lv o e h) := by
  unfold valD
  split
  · exact Lin.opnd fun v => by split <;> first | exact Lin.none' | exact Lin.one _
  · exact Lin.opnd fun v => by split <;> first | exact Lin.none' | exact Lin.one _
  · exact Lin.opnd fun v => by
      split
      · exact Lin.br (Lin.opnd fun v => Lin.one v) (Lin.opnd fun v => Lin.one v)
      · exact Lin.none'
  · exact Lin.opnd fun v => Lin.of (loadT_cases cfg _ h v)
  · exact Lin.opnd fun v => by split <;> first | exact Lin.none' | exact Lin.one _
  · exact Lin.opnd fun a => Lin.opnd fun b => binOp_lin _ _ _ _ _ _
  · exact Lin.opnd fun a => unOp_lin _ _
  · exact Lin.opnd fun v => Lin.tyK fun t => by
      split
      · split
        · exact Lin.tyK fun y => by split <;> first | exact Lin.none' | exact Lin.one _
        · exact Lin.none'
      · exact Lin.none'
  · exact Lin.opnd fun v => Lin.tyK fun t => by
      split
      · rename_i fs cs _
        split
        · rename_i off ft _
          rcases dropK_cases off cs with h1 | ⟨cs', h1⟩
          · exact .inl fun k => h1 _
          · refine Lin.congr (X := fun k => Abs.tyK cfg.ty ft fun y => match y.shape with | .struct _ => cut y.size cs' fun cs _ => k (.agg cs) | _ => nth cs' 0 k) (Lin.tyK fun y => ?_) (fun k => h1 _)
            split
            · rcases cut_cases y.size cs' with h2 | ⟨a, b, h2⟩
              · exact .inl fun k => h2 _
              · exact (Lin.one (.agg a)).congr fun k => h2 _
            · exact nth_lin _ _
        · exact Lin.none'
      · exact Lin.none'
  · exact Lin.opnd fun v => Lin.opnd fun u => by
      split
      · exact idxK_lin _ _ _ _ _
      · exact Lin.none'
  · exact Lin.tyK fun ti => by
      split
      · exact Lin.opnd fun v => Lin.opnd fun u => by
          split
          · exact Lin.br (Lin.br (Lin.one _) Lin.none') Lin.none'
          · exact Lin.none'
      · exact Lin.none'
  · exact Lin.opnd fun v => by
      split
      · exact nth_lin _ _
      · exact Lin.none'
  · rename_i cl _
    rcases opnds_cases e cl.args.toList with h0 | ⟨vs, h0⟩
    · exact .inl fun k => h0 _
    · refine Lin.congr ?_ (fun k => h0 _)
      split
      · split
        · split
          · exact Lin.tyK fun x => by
              split
              · split
                · exact Lin.one _
                · exact Lin.none'
              · exact lenK_lin _ _
              · exact Lin.none'
          · exact Lin.none'
        · exact Lin.none'
      · split
        · split
          · exact pureK_lin _ _ _ _ _ _
          · exact Lin.none'
        · exact Lin.none'
      · exact Lin.none'
  · exact Lin.none'

/-! ### what it looks at -/
theorem getE_set {e : List AV} {d t : Nat} {v : AV} (h : t ≠ d) (k : AV → R) : getE (e.set d v) t k = getE e t k := by
  induction e generalizing d t with
  | nil => rfl
  | cons a e ih =>
    cases d with
    | zero => cases t with
      | zero => exact absurd rfl h
      | succ t => rfl
    | succ d => cases t with
      | zero => rfl
      | succ t => exact ih (by omega)
theorem opnd_set {e : List AV} {d : Nat} {v : AV} {x : Operand} (h : x ≠ .tmp d) (k : AV → R) : opnd (e.set d v) x k = opnd e x k := by
  cases x with
  | tmp t => exact getE_set (fun e => h (by rw [e])) k
  | const c => rfl
  | func f => rfl
  | global g => rfl
theorem opnds_set {e : List AV} {d : Nat} {v : AV} : ∀ {l : List Operand} (_ : ∀ x ∈ l, x ≠ .tmp d) (k : List AV → R), opnds (e.set d v) l k = opnds e l k
  | [], _, k => rfl
  | x :: l, h, k => by
    have ih := fun k => opnds_set (e := e) (d := d) (v := v) (l := l) (fun y hy => h y (by simp [hy])) k
    simp only [opnds, opnd_set (h x (by simp)), ih]
theorem valD_set {e : List AV} {h : Heap} {d : Nat} {v : AV} (hd : ∀ x ∈ o.op.operands.toList, x ≠ .tmp d) (k : AV → R) : valD cfg lv o (e.set d v) h k = valD cfg lv o e h k := by
  unfold valD
  split <;> rename_i ho <;> simp only [ho, Op.operands, List.mem_cons, List.not_mem_nil, or_false, forall_eq_or_imp, forall_eq] at hd
  all_goals first
    | rfl
    | (simp only [opnd_set hd.1, opnd_set hd.2.1, opnd_set hd.2.2]; done)
    | (simp only [opnd_set hd.1, opnd_set hd.2]; done)
    | (simp only [opnd_set hd]; done)
    | skip
  rename_i cl
  have : ∀ x ∈ cl.args.toList, x ≠ .tmp d := fun x hx => hd x (by simp only [Call.operands, Array.toList_append, List.mem_append]; exact .inr hx)
  rw [opnds_set this]
end
end Go.Abs

