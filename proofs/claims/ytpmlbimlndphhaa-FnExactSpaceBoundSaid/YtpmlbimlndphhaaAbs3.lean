/- An abstract machine for the model's own code, and the proof that what it answers the program answers (part 3): no condition. -/
import Derived.Test.YtpmlbimlndphhaaAbs2
import Derived.Orders
import Derived.Deep.Slices
import Derived.Carry
import Derived.Below
import Derived.ChangeOld
import Derived.SizedLaws
import Derived.RowKit
import Derived.Laws.BitsLemmas
set_option linter.unusedVariables false
set_option linter.unusedSimpArgs false
/- Soundness 51: regions that draw their order. -/
namespace Go.Abs
noncomputable section
variable {P : Program} {E : Env} {cfg : Cfg} {lv : Lev} {C : Ctx} {ts : List (List Value)} {w : World} {a : Act} {st : St} {wr : Wrs} {g : Gh} {c : St → R} {res : Res}

def stPut (st : St) (d : Option Tmp) (v : AV) : St := match d with | some t => ⟨st.env.set t v, st.stk, st.heap⟩ | none => st
theorem putD_inv {d : Option Tmp} {v : AV} {k : St → R} (h : putD st d v k = some res) : (∀ t, d = some t → t < st.env.length) ∧ k (stPut st d v) = some res := by
  cases d with
  | none => exact ⟨fun t h => (by cases h), h⟩
  | some t =>
    obtain ⟨e, s, hp⟩ := st
    obtain ⟨h1, h2⟩ := setE_inv h
    exact ⟨fun t' h => by cases h; exact h1, h2⟩
theorem putD_eq {d : Option Tmp} {v : AV} {k : St → R} (h : ∀ t, d = some t → t < st.env.length) : putD st d v k = k (stPut st d v) := by
  cases d with
  | none => rfl
  | some t =>
    obtain ⟨e, s, hp⟩ := st
    exact setE_eq (h t rfl)
theorem stPut_len (d : Option Tmp) (v : AV) : (stPut st d v).env.length = st.env.length := by
  cases d <;> simp [stPut]
theorem stPut_heap (d : Option Tmp) (v : AV) : (stPut st d v).heap = st.heap := by cases d <;> rfl

/-- one step of the list, as values -/
def stepV (cfg : Cfg) (lv : Lev) (all : List Oper) (o : Oper) (st : St) (k : AV → R) : R := guardK all o.guard st (valD cfg lv o st.env st.heap k) (k (.tup []))
theorem guardK_lin {all : List Oper} {gd : Option (Nat × Bool)} {X Y : (AV → R) → R} (hx : Lin X) (hy : Lin Y) : Lin fun k => guardK all gd st (X k) (Y k) := by
  unfold guardK
  split
  · exact hx
  · split
    · split
      · rename_i d _
        rcases getE_cases st.env d with h | ⟨v, h⟩
        · exact .inl fun k => h _
        · refine Lin.congr ?_ (fun k => h _)
          split
          · split
            · exact Lin.br hx hy
            · exact Lin.br hy hx
          · exact hy
          · exact Lin.none'
      · exact Lin.none'
    · exact Lin.none'
theorem stepV_lin (all : List Oper) (o : Oper) : Lin (stepV cfg lv all o st) := guardK_lin (valD_lin _ _) (Lin.one _)
theorem stepD_safe {all : List Oper} {o : Oper} (hs : safeOp cfg o = true) : stepD cfg lv all o st c = stepV cfg lv all o st fun v => putD st o.dst v c := by
  unfold stepD stepV
  simp only [hs]
theorem looks_false {all : List Oper} {o : Oper} {d : Nat} (h : looks all o d = false) : (∀ x ∈ o.op.operands.toList, x ≠ .tmp d) ∧ (∀ gj wt p, o.guard = some (gj, wt) → all[gj]? = some p → p.dst ≠ some d) := by
  unfold looks at h
  rw [Bool.or_eq_false_iff] at h
  refine ⟨fun x hx e => ?_, fun gj wt p hg hp e => ?_⟩
  · subst e
    have := List.any_eq_false.1 h.1 _ hx
    simp at this
  · have := h.2
    rw [hg] at this
    simp only [hp, e] at this
    simp at this
theorem stepV_set {all : List Oper} {o : Oper} {d : Option Tmp} {v : AV} (h : ∀ t, d = some t → looks all o t = false) (k : AV → R) : stepV cfg lv all o (stPut st d v) k = stepV cfg lv all o st k := by
  cases d with
  | none => rfl
  | some t =>
    obtain ⟨h1, h2⟩ := looks_false (h t rfl)
    unfold stepV
    have e1 : valD cfg lv o (stPut st (some t) v).env (stPut st (some t) v).heap k = valD cfg lv o st.env st.heap k := valD_set h1 k
    rw [e1]
    unfold guardK
    split
    · rfl
    · rename_i gj wt hg
      split
      · rename_i p hp
        split
        · rename_i d' hd'
          have hne : d' ≠ t := fun e => h2 gj wt p hg hp (by rw [hd', e])
          exact getE_set hne _
        · rfl
      · rfl
theorem apart_spec {all : List Oper} {x y : Oper} (h : apart all x y = true) : (∀ t, x.dst = some t → looks all y t = false ∧ y.dst ≠ some t) ∧ (∀ t, y.dst = some t → looks all x t = false) := by
  unfold apart at h
  rw [Bool.and_eq_true] at h
  refine ⟨fun t ht => ?_, fun t ht => ?_⟩
  · have := h.1
    rw [ht] at this
    simpa using this
  · have := h.2
    rw [ht] at this
    simpa using this
/-- two operations that do not meet, the other way round -/
theorem stepD_swap {all : List Oper} {x y : Oper} (hx : safeOp cfg x = true) (hy : safeOp cfg y = true) (ha : apart all x y = true) (h : stepD cfg lv all x st (fun st => stepD cfg lv all y st c) = some res) :
    stepD cfg lv all y st (fun st => stepD cfg lv all x st c) = some res := by
  obtain ⟨a1, a2⟩ := apart_spec ha
  rw [stepD_safe hx] at h
  rw [stepD_safe hy]
  rcases stepV_lin (cfg := cfg) (lv := lv) (st := st) all x with hX | ⟨V, ⟨v0, hv0⟩, hV⟩
  · rw [hX] at h; cases h
  · rw [hV] at h
    have key : ∀ v, V v → (∀ t, x.dst = some t → t < st.env.length) ∧ stepV cfg lv all y st (fun u => putD (stPut st x.dst v) y.dst u c) = some res := by
      intro v hv
      have h1 := h v hv
      obtain ⟨b1, h1⟩ := putD_inv h1
      refine ⟨b1, ?_⟩
      change stepD cfg lv all y (stPut st x.dst v) c = some res at h1
      rw [stepD_safe hy, stepV_set (fun t ht => (a1 t ht).1)] at h1
      exact h1
    rcases stepV_lin (cfg := cfg) (lv := lv) (st := st) all y with hY | ⟨U, ⟨u0, hu0⟩, hU⟩
    · have := (key v0 hv0).2; rw [hY] at this; cases this
    · rw [hU]
      intro u hu
      have by_ : ∀ t, y.dst = some t → t < st.env.length := by
        have := (hU _ _).1 (key v0 hv0).2 u hu
        obtain ⟨b2, _⟩ := putD_inv this
        rw [stPut_len] at b2
        exact b2
      rw [putD_eq by_]
      change stepD cfg lv all x (stPut st y.dst u) c = some res
      rw [stepD_safe hx, stepV_set (fun t ht => a2 t ht), hV]
      intro v hv
      obtain ⟨b1, h1⟩ := key v hv
      have h2 := (hU _ _).1 h1 u hu
      obtain ⟨_, h2⟩ := putD_inv h2
      rw [putD_eq (by rw [stPut_len]; exact b1)]
      have e : stPut (stPut st y.dst u) x.dst v = stPut (stPut st x.dst v) y.dst u := by
        cases hxd : x.dst with
        | none => cases hyd : y.dst <;> rfl
        | some t =>
          cases hyd : y.dst with
          | none => rfl
          | some t' =>
            have hne : t' ≠ t := fun e => (a1 t hxd).2 (by rw [hyd, e])
            simp only [stPut]
            rw [List.set_comm _ _ hne]
      rw [e]
      exact h2

/-- one step, run -/
theorem stepD_sound (hE : C.E = E) (hO : OpsOK P E cfg lv) {ops : Array Oper} {i : Nat} {o : Oper} {Q : Exit → Act → World → Prop} (ho : ops[i]? = some o) (h : stepD cfg lv ops.toList o st c = some res) (I : InvE C ts w a st) : wpOp P ops Q i (Post C ts c res) a w := by
  obtain ⟨wr, g, I⟩ := I
  have main : ∀ run skip : R, guardK ops.toList o.guard st run skip = some res → (run = some res → ∃ slot, evOp cfg lv slot o st c = some res) → (skip = some res → putD st o.dst (.tup []) c = some res) → wpOp P ops Q i (Post C ts c res) a w := by
    intro run skip hg hr hs
    unfold wpOp
    simp only [ho]
    rcases guard_sound I hg with ⟨hw, h⟩ | ⟨hw, h⟩
    · rw [if_pos hw]
      obtain ⟨slot, h⟩ := hr h
      exact .inl (hO C hE ts o slot st c res a w Q h ⟨wr, g, I⟩)
    · rw [if_neg (by rw [hw]; simp)]
      exact I.skip (hs h)
  unfold stepD at h
  split at h
  · exact main _ _ h (fun hr => ⟨0, valD_ev hr⟩) id
  · exact main _ _ h (fun hr => ⟨_, lenH_inv hr⟩) id

/-! ### a calm region: any order is as good as the text's -/
def evIdx (cfg : Cfg) (lv : Lev) (all : List Oper) : List Nat → St → (St → R) → R
  | [], st, c => c st
  | i :: l, st, c => match all[i]? with
    | some o => stepD cfg lv all o st fun st => evIdx cfg lv all l st c
    | none => none
theorem evList_idx {all : List Oper} : ∀ (n k : Nat), k + n = all.length → ∀ (st : St), evList cfg lv all (all.drop k) st c = evIdx cfg lv all ((List.range n).map (· + k)) st c
  | 0, k, hk, st => by
    rw [List.drop_eq_nil_of_le (by omega), evList_nil]
    rfl
  | n + 1, k, hk, st => by
    have hlt : k < all.length := by omega
    rw [List.drop_eq_getElem_cons hlt, List.range_succ_eq_map]
    simp only [evList_cons, List.map_cons, List.map_map, evIdx, Nat.zero_add, List.getElem?_eq_getElem hlt]
    congr 1
    funext st
    rw [evList_idx n (k + 1) (by omega)]
    congr 1
    apply List.map_congr_left
    intro i _
    simp only [Function.comp_apply]
    omega
theorem stepD_congr {all : List Oper} {o : Oper} {c c' : St → R} (hc : ∀ st, c st = some res → c' st = some res) (hs : safeOp cfg o = true) (h : stepD cfg lv all o st c = some res) : stepD cfg lv all o st c' = some res := by
  rw [stepD_safe hs] at h ⊢
  rcases stepV_lin (cfg := cfg) (lv := lv) (st := st) all o with hX | ⟨V, _, hV⟩
  · rw [hX] at h; cases h
  · rw [hV] at h ⊢
    intro v hv
    have := h v hv
    obtain ⟨b, h1⟩ := putD_inv this
    rw [putD_eq b]
    exact hc _ h1
theorem evIdx_front {all : List Oper} {i : Nat} {o : Oper} {B : List Nat} (ho : all[i]? = some o) : ∀ {A : List Nat} {st : St}, (∀ j ∈ A, ∀ p, all[j]? = some p → safeOp cfg p = true ∧ safeOp cfg o = true ∧ apart all p o = true) →
    evIdx cfg lv all (A ++ i :: B) st c = some res → stepD cfg lv all o st (fun st => evIdx cfg lv all (A ++ B) st c) = some res
  | [], st, _, h => by simpa [evIdx, ho] using h
  | j :: A, st, hA, h => by
    simp only [List.cons_append, evIdx] at h ⊢
    split at h
    · rename_i p hp
      obtain ⟨s1, s2, s3⟩ := hA j (by simp) p hp
      have h1 := stepD_congr (fun st hst => evIdx_front ho (fun j' hj' => hA j' (by simp [hj'])) hst) s1 h
      exact stepD_swap s1 s2 s3 h1
    · cases h

def left (n : Nat) (listed : Array Bool) : List Nat := (List.range n).filter fun i => !listed.getD i true
theorem left_set {n i : Nat} {listed : Array Bool} (hn : listed.size = n) (hi : i < n) : left n (listed.setIfInBounds i true) = (left n listed).filter fun j => decide (j ≠ i) := by
  unfold left
  rw [List.filter_filter]
  apply List.filter_congr
  intro j hj
  have hj : j < n := List.mem_range.1 hj
  by_cases e : j = i
  · subst e
    simp [Array.getD_eq_getD_getElem?, hn, hi]
  · rw [Array.getD_eq_getD_getElem?, Array.getElem?_setIfInBounds_ne (Ne.symm e), ← Array.getD_eq_getD_getElem?]
    simp [e]
theorem left_mem {n i : Nat} {listed : Array Bool} : i ∈ left n listed ↔ i < n ∧ listed.getD i true = false := by
  simp [left]
theorem left_sorted (n : Nat) (listed : Array Bool) : (left n listed).Pairwise (· < ·) := List.Pairwise.filter _ List.pairwise_lt_range
theorem before_listed {ops : Array Oper} {listed : Array Bool} (hcl : ∀ i o, ops[i]? = some o → listed.getD i true = true → ∀ e ∈ o.after.toList, bindsA e = true → listed.getD e.on false = true) :
    ∀ (n i j : Nat), before ops.toList n i j = true → (∀ o, ops[i]? = some o → ∀ e ∈ o.after.toList, bindsA e = true → listed.getD e.on false = true) → listed.getD j false = true
  | 0, i, j, h, _ => by simp [before] at h
  | n + 1, i, j, h, hi => by
    simp only [before] at h
    split at h
    · rename_i o ho
      rw [Array.getElem?_toList] at ho
      obtain ⟨e, he, hb⟩ := List.any_eq_true.1 h
      rw [Bool.and_eq_true, Bool.or_eq_true] at hb
      have hl := hi o ho e he hb.1
      rcases hb.2 with h1 | h1
      · have : e.on = j := by simpa using h1
        rw [← this]; exact hl
      · refine before_listed hcl n e.on j h1 fun o' ho' e' he' hb' => hcl e.on o' ho' ?_ e' he' hb'
        have hlt : e.on < listed.size := by
          rcases Nat.lt_or_ge e.on listed.size with h | h
          · exact h
          · simp [Array.getD_eq_getD_getElem?, Array.getElem?_eq_none h] at hl
        simpa [Array.getD_eq_getD_getElem?, hlt] using hl
    · cases h
theorem getD_listed {listed : Array Bool} {i : Nat} (h : listed.getD i false = true) : listed.getD i true = true := by
  have hlt : i < listed.size := by
    rcases Nat.lt_or_ge i listed.size with h' | h'
    · exact h'
    · simp [Array.getD_eq_getD_getElem?, Array.getElem?_eq_none h'] at h
  simpa [Array.getD_eq_getD_getElem?, hlt] using h
theorem binds_of (md : Region.Mode) {e : Edge} (h : bindsA e = true) : Region.binds md e = true := by
  unfold bindsA at h
  unfold Region.binds
  split <;> simp_all
theorem ready_spec {md : Region.Mode} {ops : Array Oper} {listed : Array Bool} {i : Nat} : i ∈ Region.ready md ops listed ↔ i < ops.size ∧ listed.getD i true = false ∧ ∃ o, ops[i]? = some o ∧ ∀ e ∈ o.after.toList, Region.binds md e = true → listed.getD e.on false = true := by
  unfold Region.ready
  simp only [List.mem_filter, List.mem_range, Bool.and_eq_true, Bool.not_eq_true']
  constructor
  · rintro ⟨h1, h2, h3⟩
    refine ⟨h1, h2, ops[i], Array.getElem?_eq_getElem h1, fun e he hb => ?_⟩
    rw [Array.getElem?_eq_getElem h1] at h3
    simp only [Option.map_some, Option.getD_some] at h3
    have := (Array.all_eq_true_iff_forall_mem.1 h3) e (Array.mem_toList_iff.1 he)
    simpa [hb] using this
  · rintro ⟨h1, h2, o, ho, h3⟩
    refine ⟨h1, h2, ?_⟩
    rw [ho]
    simp only [Option.map_some, Option.getD_some]
    refine Array.all_eq_true_iff_forall_mem.2 fun e he => ?_
    by_cases hb : Region.binds md e = true
    · simp [h3 e (Array.mem_toList_iff.2 he) hb]
    · simp [hb]
theorem edgesIn_spec {g : Edge → Bool} {all : List Oper} {listed : Array Bool} (hn : listed.size = all.length) : ∀ (rest done : List Nat), edgesIn g all done rest = true → (∀ j ∈ done, listed.getD j false = true) → (∃ i ∈ rest, listed.getD i true = false) →
    ∃ i o, all[i]? = some o ∧ listed.getD i true = false ∧ ∀ e ∈ o.after.toList, g e = true → listed.getD e.on false = true
  | [], _, _, _, ⟨i, hi, _⟩ => by cases hi
  | i :: rest, done, h, hd, ⟨i', hi', hl'⟩ => by
    rw [edgesIn, Bool.and_eq_true] at h
    obtain ⟨h1, h2⟩ := h
    split at h1
    · rename_i o ho
      have hlt : i < listed.size := by rw [hn]; exact (List.getElem?_eq_some_iff.1 ho).1
      cases hv : listed.getD i true with
      | false =>
        refine ⟨i, o, ho, hv, fun e he hg => ?_⟩
        have := List.all_eq_true.1 h1 e he
        rw [hg] at this
        exact hd _ (by simpa using this)
      | true =>
        refine edgesIn_spec hn rest (i :: done) h2 (fun j hj => ?_) ?_
        · rcases List.mem_cons.1 hj with rfl | hj
          · simpa [Array.getD_eq_getD_getElem?, hlt] using hv
          · exact hd j hj
        · rcases List.mem_cons.1 hi' with rfl | hm
          · rw [hv] at hl'; cases hl'
          · exact ⟨i', hm, hl'⟩
    · cases h1
/-- what is left is never stuck -/
theorem left_ready {md : Region.Mode} {ops : Array Oper} {listed : Array Bool} (hn : listed.size = ops.size) (hd : edgesDown ops.toList = true) (h : Region.ready md ops listed = []) : left ops.size listed = [] := by
  cases hl : left ops.size listed with
  | nil => rfl
  | cons i L =>
    exfalso
    have hi : i ∈ left ops.size listed := by rw [hl]; simp
    obtain ⟨h1, h2⟩ := left_mem.1 hi
    have hn' : listed.size = ops.toList.length := by simpa using hn
    obtain ⟨hA, hB⟩ := Bool.and_eq_true_iff.1 hd
    obtain ⟨hB, hC⟩ := Bool.and_eq_true_iff.1 hB
    have key : ∃ i o, ops.toList[i]? = some o ∧ listed.getD i true = false ∧ ∀ e ∈ o.after.toList, Region.binds md e = true → listed.getD e.on false = true := by
      by_cases hm : md = .gc
      · subst hm
        have hin : i ∈ gcOrd ops.toList ops.toList.length [] := by
          have := List.all_eq_true.1 hC i (List.mem_range.2 (by simpa using h1))
          simpa using this
        obtain ⟨j, o, ho, hj, he⟩ := edgesIn_spec hn' _ _ hB (fun j hj => by cases hj) ⟨i, hin, h2⟩
        refine ⟨j, o, ho, hj, fun e hem hb => he e hem ?_⟩
        unfold Region.binds at hb
        unfold notText
        split <;> rename_i hg
        · rw [hg] at hb; cases hb
        · rfl
      · obtain ⟨j, o, ho, hj, he⟩ := edgesIn_spec hn' _ _ hA (fun j hj => by cases hj) ⟨i, List.mem_range.2 (by simpa using h1), h2⟩
        refine ⟨j, o, ho, hj, fun e hem hb => he e hem ?_⟩
        unfold Region.binds at hb
        unfold notGc
        split <;> rename_i hg
        · rw [hg] at hb; exact absurd (by simpa using hb) hm
        · rfl
    obtain ⟨j, o, ho, hj, he⟩ := key
    have ho' : ops[j]? = some o := by rw [← ho, Array.getElem?_toList]
    have hr : j ∈ Region.ready md ops listed := ready_spec.2 ⟨(Array.getElem?_eq_some_iff.1 ho').1, hj, o, ho', he⟩
    rw [h] at hr
    cases hr
theorem closed_set {ops : Array Oper} {listed : Array Bool} {i : Nat} (hi : i < listed.size) (hcl : ∀ i o, ops[i]? = some o → listed.getD i true = true → ∀ e ∈ o.after.toList, bindsA e = true → listed.getD e.on false = true)
    (hr : ∀ o, ops[i]? = some o → ∀ e ∈ o.after.toList, bindsA e = true → listed.getD e.on false = true) :
    ∀ j o, ops[j]? = some o → (listed.setIfInBounds i true).getD j true = true → ∀ e ∈ o.after.toList, bindsA e = true → (listed.setIfInBounds i true).getD e.on false = true := by
  have mono : ∀ j, listed.getD j false = true → (listed.setIfInBounds i true).getD j false = true := by
    intro j hj
    by_cases e : j = i
    · subst e; simp [Array.getD_eq_getD_getElem?, hi]
    · rw [Array.getD_eq_getD_getElem?, Array.getElem?_setIfInBounds_ne (Ne.symm e), ← Array.getD_eq_getD_getElem?]; exact hj
  intro j o ho hj e he hb
  by_cases hji : j = i
  · subst hji
    exact mono _ (hr o ho e he hb)
  · rw [Array.getD_eq_getD_getElem?, Array.getElem?_setIfInBounds_ne (Ne.symm hji), ← Array.getD_eq_getD_getElem?] at hj
    exact mono _ (hcl j o ho hj e he hb)
theorem evIdx_any (hE : C.E = E) (hO : OpsOK P E cfg lv) {md : Region.Mode} {ops : Array Oper} (hd : edgesDown ops.toList = true) (hc : calmOps cfg ops.toList = true) {Q : Exit → Act → World → Prop} (hQ : ∀ a w, Post C ts c res a w → Q .normal a w) :
    ∀ (fuel : Nat) (listed : Array Bool) (a : Act) (w : World) (st : St), listed.size = ops.size → (left ops.size listed).length ≤ fuel →
      (∀ i o, ops[i]? = some o → listed.getD i true = true → ∀ e ∈ o.after.toList, bindsA e = true → listed.getD e.on false = true) →
      evIdx cfg lv ops.toList (left ops.size listed) st c = some res → InvE C ts w a st → wpAny P md ops Q fuel listed a w := by
  have done : ∀ (listed : Array Bool) (a : Act) (w : World) (st : St), left ops.size listed = [] → evIdx cfg lv ops.toList (left ops.size listed) st c = some res → InvE C ts w a st → Q .normal a w := by
    intro listed a w st hl h I
    rw [hl] at h
    exact hQ a w ⟨st, h, I⟩
  intro fuel
  induction fuel with
  | zero =>
    intro listed a w st hn hl hcl h I
    have hl : left ops.size listed = [] := List.length_eq_zero_iff.1 (by omega)
    refine ⟨?_, done listed a w st hl h I⟩
    cases hr : Region.ready md ops listed with
    | nil => rfl
    | cons i L =>
      have : i ∈ Region.ready md ops listed := by rw [hr]; simp
      obtain ⟨h1, h2, _⟩ := ready_spec.1 this
      have : i ∈ left ops.size listed := left_mem.2 ⟨h1, h2⟩
      rw [hl] at this
      cases this
  | succ fuel ih =>
    intro listed a w st hn hl hcl h I
    refine ⟨fun hr => done listed a w st (left_ready hn hd hr) h I, fun i hi => ?_⟩
    obtain ⟨h1, h2, o, ho, h3⟩ := ready_spec.1 hi
    have hr : ∀ o, ops[i]? = some o → ∀ e ∈ o.after.toList, bindsA e = true → listed.getD e.on false = true := fun o' ho' e he hb => by
      rw [ho] at ho'
      cases ho'
      exact h3 e he (binds_of md hb)
    have him : i ∈ left ops.size listed := left_mem.2 ⟨h1, h2⟩
    obtain ⟨A, B, hAB⟩ := List.append_of_mem him
    have hs := left_sorted ops.size listed
    rw [hAB] at hs
    have hAi : ∀ j ∈ A, j < i := fun j hj => (List.pairwise_append.1 hs).2.2 j hj i (by simp)
    have hiB : ∀ j ∈ B, i < j := fun j hj => (List.pairwise_cons.1 (List.pairwise_append.1 hs).2.1).1 j hj
    have hol : ops.toList[i]? = some o := by rw [Array.getElem?_toList]; exact ho
    rw [hAB] at h
    have hfront := evIdx_front (B := B) hol (A := A) (fun j hj p hp => by
      have hcalm := List.all_eq_true.1 hc i (List.mem_range.2 (by simpa using h1))
      rw [hol] at hcalm
      have := List.all_eq_true.1 hcalm j (List.mem_range.2 (hAi j hj))
      rw [hp] at this
      rw [Bool.or_eq_true] at this
      rcases this with hb | hb
      · exfalso
        have hlj := getD_listed (before_listed hcl _ i j hb hr)
        have : j ∈ left ops.size listed := by rw [hAB]; simp [hj]
        rw [(left_mem.1 this).2] at hlj
        cases hlj
      · rw [Bool.and_eq_true, Bool.and_eq_true] at hb
        exact ⟨hb.1.1, hb.1.2, hb.2⟩) h
    have hAB' : left ops.size (listed.setIfInBounds i true) = A ++ B := by
      rw [left_set hn h1, hAB, List.filter_append, List.filter_cons]
      simp only [ne_eq, not_true_eq_false, decide_false, Bool.false_eq_true, if_false]
      congr 1
      · apply List.filter_eq_self.2
        intro j hj
        have := hAi j hj
        simp; omega
      · apply List.filter_eq_self.2
        intro j hj
        have := hiB j hj
        simp; omega
    refine wpOp_mono ?_ (stepD_sound hE hO (Q := Q) ho hfront I)
    intro a' w' ⟨st', h4, I'⟩
    refine ih (listed.setIfInBounds i true) a' w' st' (by simpa using hn) ?_ (closed_set (by omega) hcl hr) (by rw [hAB']; exact h4) I'
    rw [hAB']
    rw [hAB] at hl
    simp at hl ⊢
    omega

/-! ### the other regions: every order, state by state -/
theorem boolAt_bset {d : List Bool} {i j : Nat} (hi : i < d.length) : boolAt (bset d i) j = if j = i then true else boolAt d j := by
  induction d generalizing i j with
  | nil => simp at hi
  | cons b d ih => cases i with
    | zero => cases j with
      | zero => simp [bset, boolAt]
      | succ j => simp [bset, boolAt]
    | succ i => cases j with
      | zero => simp [bset, boolAt]
      | succ j => simp only [bset, boolAt]; rw [ih (by simpa using hi)]; simp
theorem bset_len (d : List Bool) (i : Nat) : (bset d i).length = d.length := by
  induction d generalizing i with
  | nil => rfl
  | cons b d ih => cases i <;> simp [bset, ih]
theorem bsetK_eq (d : List Bool) (i : Nat) (k : List Bool → R) : bsetK d i k = k (bset d i) := by
  induction d generalizing i k with
  | nil => rfl
  | cons b d ih => cases i with
    | zero => rfl
    | succ i => exact ih i _
theorem normS_eq (s : List (List AV)) (k : List (List AV) → R) : normS s k = k s := by
  induction s generalizing k with
  | nil => rfl
  | cons e s ih => exact ih _
theorem normSt_eq (st : St) (k : St → R) : normSt st k = k st := normS_eq _ _
theorem falsesK_eq (l : List Oper) (k : List Bool → R) : falsesK l k = k (falses l) := by
  induction l generalizing k with
  | nil => rfl
  | cons o l ih => exact ih _
theorem eqB_eq : ∀ {a b : List Bool}, eqB a b = true → a = b
  | [], [], _ => rfl
  | true :: a, true :: b, h => by rw [eqB_eq (a := a) (b := b) (by simpa [eqB] using h)]
  | false :: a, false :: b, h => by rw [eqB_eq (a := a) (b := b) (by simpa [eqB] using h)]
  | true :: a, false :: b, h => by simp [eqB] at h
  | false :: a, true :: b, h => by simp [eqB] at h
  | [], _ :: _, h => by simp [eqB] at h
  | _ :: _, [], h => by simp [eqB] at h
theorem readyE_of {d : List Bool} : ∀ {l : List Edge}, (∀ e ∈ l, bindsA e = true → boolAt d e.on = true) → readyE d l = true
  | [], _ => rfl
  | e :: l, h => by
    have ih := readyE_of (d := d) (l := l) fun e he => h e (List.mem_cons_of_mem _ he)
    unfold readyE
    split
    · exact ih
    · rename_i hb
      rw [h e (List.mem_cons_self ..) hb]
      exact ih
theorem bndS_inv {x : R} {k : St → R} (h : bndS x k = some res) : ∃ r, x = some r ∧ k (decI r) = some res := by
  unfold bndS at h; exact bnd_inv h
theorem eqS_inv {a b : St} {x : R} (h : eqS a b x = some res) : a = b ∧ x = some res := by
  unfold eqS at h; split at h
  · rename_i e; exact ⟨e, h⟩
  · cases h
theorem addE_inv {d : List Bool} {s : St} : ∀ {acc : Lvl} {k : Lvl → R}, addE d s acc k = some res → ∃ acc', k acc' = some res ∧ (d, s) ∈ acc' ∧ ∀ x ∈ acc, x ∈ acc'
  | [], k, h => ⟨[(d, s)], by rw [addE_nil] at h; exact h, by simp, by simp⟩
  | (d', s') :: acc, k, h => by
    rw [addE_cons] at h
    split at h
    · rename_i hd
      obtain ⟨e, h⟩ := eqS_inv h
      exact ⟨_, h, by rw [eqB_eq hd, e]; simp, fun x hx => hx⟩
    · obtain ⟨acc', h1, h2, h3⟩ := addE_inv h
      exact ⟨_, h1, List.mem_cons_of_mem _ h2, fun x hx => by
        rcases List.mem_cons.1 hx with rfl | hx
        · simp
        · exact List.mem_cons_of_mem _ (h3 x hx)⟩
def stepE (cfg : Cfg) (lv : Lev) (all : List Oper) (slot : Nat) (o : Oper) (st : St) : R := guardK all o.guard st (evOp cfg lv slot o st fun st => some (encI st)) (putD st o.dst (.tup []) fun st => some (encI st))
theorem expOps_inv {all : List Oper} {slot : Nat} {d : List Bool} {s : St} : ∀ {l : List Oper} {i : Nat} {acc : Lvl} {k : Lvl → R}, expOps cfg lv all slot d s i l acc k = some res →
    ∃ acc', k acc' = some res ∧ (∀ x ∈ acc, x ∈ acc') ∧ ∀ j o, l[j]? = some o → boolAt d (i + j) = false → readyE d o.after.toList = true → ∃ r, stepE cfg lv all (slot + (i + j)) o s = some r ∧ (bset d (i + j), decI r) ∈ acc'
  | [], i, acc, k, h => ⟨acc, by rw [expOps_nil] at h; exact h, fun x hx => hx, fun j o ho => by simp at ho⟩
  | o :: l, i, acc, k, h => by
    have next : ∀ {acc acc' : Lvl}, (∀ x ∈ acc, x ∈ acc') → (∀ j o, l[j]? = some o → boolAt d (i + 1 + j) = false → readyE d o.after.toList = true → ∃ r, stepE cfg lv all (slot + (i + 1 + j)) o s = some r ∧ (bset d (i + 1 + j), decI r) ∈ acc') →
        (boolAt d i = false → readyE d o.after.toList = true → ∃ r, stepE cfg lv all (slot + i) o s = some r ∧ (bset d i, decI r) ∈ acc') →
        ∀ j o', (o :: l)[j]? = some o' → boolAt d (i + j) = false → readyE d o'.after.toList = true → ∃ r, stepE cfg lv all (slot + (i + j)) o' s = some r ∧ (bset d (i + j), decI r) ∈ acc' := by
      intro acc acc' _ h2 h3 j o' ho hb hr
      cases j with
      | zero => simp at ho; subst ho; exact h3 hb hr
      | succ j =>
        rw [show i + (j + 1) = i + 1 + j by omega] at hb ⊢
        exact h2 j o' (by simpa using ho) hb hr
    rw [expOps_cons] at h
    split at h
    · rename_i hb
      obtain ⟨acc', h1, h2, h3⟩ := expOps_inv h
      exact ⟨acc', h1, h2, next h2 h3 fun hf => by rw [hb] at hf; cases hf⟩
    · split at h
      · rename_i hr
        obtain ⟨acc', h1, h2, h3⟩ := expOps_inv h
        exact ⟨acc', h1, h2, next h2 h3 fun _ hf => by rw [hr] at hf; cases hf⟩
      · obtain ⟨r, hx, h⟩ := bndS_inv h
        rw [normSt_eq, bsetK_eq] at h
        obtain ⟨acc1, h, hm, hsub⟩ := addE_inv h
        obtain ⟨acc', h1, h2, h3⟩ := expOps_inv h
        exact ⟨acc', h1, fun x hx => h2 x (hsub x hx), next h2 h3 fun _ _ => ⟨r, hx, h2 _ hm⟩⟩
theorem expLvl_inv {all : List Oper} {slot : Nat} : ∀ {l : Lvl} {acc : Lvl} {k : Lvl → R}, expLvl cfg lv all slot l acc k = some res →
    ∃ acc', k acc' = some res ∧ (∀ x ∈ acc, x ∈ acc') ∧ ∀ d s, (d, s) ∈ l → ∀ j o, all[j]? = some o → boolAt d j = false → readyE d o.after.toList = true → ∃ r, stepE cfg lv all (slot + j) o s = some r ∧ (bset d j, decI r) ∈ acc'
  | [], acc, k, h => ⟨acc, by rw [expLvl_nil] at h; exact h, fun x hx => hx, fun d s hd => by cases hd⟩
  | (d, s) :: l, acc, k, h => by
    rw [expLvl_cons] at h
    obtain ⟨acc1, h, h1, h2⟩ := expOps_inv h
    obtain ⟨acc', h, h3, h4⟩ := expLvl_inv h
    refine ⟨acc', h, fun x hx => h3 x (h1 x hx), fun d' s' hm j o ho hb hr => ?_⟩
    rcases List.mem_cons.1 hm with e | hm
    · cases e
      obtain ⟨r, hx, hm⟩ := h2 j o ho (by rw [Nat.zero_add]; exact hb) hr
      rw [Nat.zero_add] at hx hm
      exact ⟨r, hx, h3 _ hm⟩
    · exact h4 d' s' hm j o ho hb hr
theorem evDag_any (hE : C.E = E) (hO : OpsOK P E cfg lv) {md : Region.Mode} {ops : Array Oper} (hd : edgesDown ops.toList = true) {slot : Nat} {Q : Exit → Act → World → Prop} (hQ : ∀ a w, Post C ts c res a w → Q .normal a w) :
    ∀ (fuel : List Oper) (listed : Array Bool) (d : List Bool) (l : Lvl) (a : Act) (w : World) (st : St), listed.size = ops.size → (left ops.size listed).length = fuel.length → d.length = ops.size → (∀ i, i < ops.size → boolAt d i = listed.getD i true) →
      (d, st) ∈ l → evDag cfg lv ops.toList slot fuel l c = some res → InvE C ts w a st → wpAny P md ops Q fuel.length listed a w := by
  intro fuel
  induction fuel with
  | nil =>
    intro listed d l a w st hn hl hdn hdl hm h I
    have hl : left ops.size listed = [] := List.length_eq_zero_iff.1 hl
    have hc : c st = some res := by
      rw [evDag_nil] at h
      split at h
      · simp only [List.mem_cons, List.not_mem_nil, or_false, Prod.mk.injEq] at hm
        rw [hm.2]; exact h
      · cases h
    refine ⟨?_, hQ a w ⟨st, hc, I⟩⟩
    cases hr : Region.ready md ops listed with
    | nil => rfl
    | cons i L =>
      have : i ∈ Region.ready md ops listed := by rw [hr]; simp
      obtain ⟨h1, h2, _⟩ := ready_spec.1 this
      have : i ∈ left ops.size listed := left_mem.2 ⟨h1, h2⟩
      rw [hl] at this
      cases this
  | cons o0 fuel ih =>
    intro listed d l a w st hn hl hdn hdl hm h I
    refine ⟨fun hr => by rw [left_ready hn hd hr] at hl; simp at hl, fun i hi => ?_⟩
    obtain ⟨h1, h2, o, ho, h3⟩ := ready_spec.1 hi
    have hol : ops.toList[i]? = some o := by rw [Array.getElem?_toList]; exact ho
    rw [evDag_cons] at h
    obtain ⟨l', h, _, hall⟩ := expLvl_inv h
    obtain ⟨r, hx, hm'⟩ := hall d st hm i o hol (by rw [hdl i h1]; exact h2) (readyE_of fun e he hb => by
      have hlt := h3 e (by simpa using he) (binds_of md hb)
      have hon : e.on < ops.size := by
        rw [← hn]
        rcases Nat.lt_or_ge e.on listed.size with h | h
        · exact h
        · simp [Array.getD_eq_getD_getElem?, Array.getElem?_eq_none h] at hlt
      rw [hdl e.on hon]; exact getD_listed hlt)
    have hlen : (left ops.size (listed.setIfInBounds i true)).length = fuel.length := by
      rw [left_set hn h1]
      have him : i ∈ left ops.size listed := left_mem.2 ⟨h1, h2⟩
      have hnd : (left ops.size listed).Nodup := (left_sorted _ _).imp (fun h => by omega)
      have : (left ops.size listed).filter (fun j => decide (j ≠ i)) = (left ops.size listed).erase i := by
        rw [hnd.erase_eq_filter]
        apply List.filter_congr
        intro j _
        by_cases e : j = i <;> simp [e]
      rw [this, List.length_erase_of_mem him, hl]
      rfl
    have hdl' : ∀ j, j < ops.size → boolAt (bset d i) j = (listed.setIfInBounds i true).getD j true := by
      intro j hj
      rw [boolAt_bset (by omega)]
      by_cases e : j = i
      · subst e
        simp [Array.getD_eq_getD_getElem?, hn, hj]
      · rw [if_neg e, Array.getD_eq_getD_getElem?, Array.getElem?_setIfInBounds_ne (Ne.symm e), ← Array.getD_eq_getD_getElem?, ← hdl j hj]
    have hnext : ∀ a' w', Post C ts (fun st => some (encI st)) r a' w' → wpAny P md ops Q fuel.length (listed.setIfInBounds i true) a' w' := by
      intro a' w' ⟨st', h4, I'⟩
      have e : decI r = st' := by cases h4; exact dec_enc st'
      rw [e] at hm'
      exact ih (listed.setIfInBounds i true) (bset d i) l' a' w' st' (by simpa using hn) hlen (by rw [bset_len]; exact hdn) hdl' hm' h I'
    obtain ⟨wr, g, I⟩ := I
    refine wpOp_mono hnext ?_
    unfold stepE at hx
    unfold wpOp
    simp only [ho]
    rcases guard_sound I hx with ⟨hw, hx⟩ | ⟨hw, hx⟩
    · rw [if_pos hw]
      exact .inl (hO C hE ts o _ st _ r a w Q hx ⟨wr, g, I⟩)
    · rw [if_neg (by rw [hw]; simp)]
      exact I.skip hx
theorem falses_len (l : List Oper) : (falses l).length = l.length := by induction l with
  | nil => rfl
  | cons o l ih => simp [falses, ih]
theorem falses_at {l : List Oper} {i : Nat} (h : i < l.length) : boolAt (falses l) i = false := by
  induction l generalizing i with
  | nil => simp at h
  | cons o l ih => cases i with
    | zero => rfl
    | succ i => exact ih (by simpa using h)
theorem schedule_any {md : Bool} {ops : Array Oper} {Q : Exit → Act → World → Prop} (h : ∀ m, wpAny P m ops Q ops.size (Array.replicate ops.size false) a w) (t : Nat) : wpOps P ops Q (Region.schedule md ops t) a w := by
  unfold Region.schedule
  split
  · exact wpAny_sound _ _ _ _ _ (h _)
  · exact wpAny_sound _ _ _ _ _ (h _)
theorem left_all (n : Nat) : left n (Array.replicate n false) = List.range n := by
  unfold left
  apply List.filter_eq_self.2
  intro i hi
  have hi := List.mem_range.1 hi
  simp [Array.getD_eq_getD_getElem?, hi]
theorem draws_ok (hO : OpsOK P E cfg lv) {f : FuncId} : ∀ (code : Code), calmCode cfg f code = true → DrawsOK P E (evDraw cfg lv f) code := by
  intro code
  induction code with
  | region id ops d =>
    intro hc hd
    subst hd
    simp only [calmCode, Bool.not_true, Bool.false_or, Bool.and_eq_true] at hc
    intro C hE ts st c res a w Q h I hQ t
    have I' : InvE C ts { w with drawn := w.drawn + 1 } a st := by
      obtain ⟨wr, g, I⟩ := I
      exact ⟨wr, g, Good.heap (w := w) (w' := { w with drawn := w.drawn + 1 }) rfl I.good, ⟨I.fr.os, I.fr.tape, I.fr.output, I.fr.size, I.fr.block, I.fr.cells⟩, I.can, I.dom, I.nodef⟩
    unfold evDraw at h
    refine schedule_any (fun md => ?_) t
    split at h
    · rename_i hcalm
      rw [listK_eq] at h
      have hc2 : calmOps cfg ops.toList = true := by
        have := hc.2
        rw [hcalm] at this
        simpa using this
      have e := evList_idx (cfg := cfg) (lv := lv) (c := c) (all := ops.toList) ops.size 0 (by simp) st
      rw [List.drop_zero] at e
      rw [e] at h
      refine evIdx_any hE hO hc.1 hc2 hQ ops.size _ a _ st (by simp) (by rw [left_all]; simp) (fun i o ho hl => ?_) (by rw [left_all]; simpa using h) I'
      have hi : i < ops.size := (Array.getElem?_eq_some_iff.1 ho).1
      simp [Array.getD_eq_getD_getElem?, hi] at hl
    · have h := lenH_inv h
      rw [falsesK_eq, normSt_eq] at h
      have hany := evDag_any hE hO hc.1 hQ (md := md) ops.toList (Array.replicate ops.size false) (falses ops.toList) _ a _ st (by simp) (by rw [left_all]; simp) (by rw [falses_len]; simp) (fun i hi => by rw [falses_at (by simpa using hi)]; simp [Array.getD_eq_getD_getElem?, hi]) (List.mem_cons_self ..) h I'
      rw [Array.length_toList] at hany
      exact hany
  | seq x y ihx ihy =>
    intro hc
    simp only [calmCode, Bool.and_eq_true] at hc
    exact ⟨ihx hc.1, ihy hc.2⟩
  | cond b x y ihx ihy =>
    intro hc
    simp only [calmCode, Bool.and_eq_true] at hc
    exact ⟨ihx hc.1, ihy hc.2⟩
  | block id b ih => intro hc; exact ih hc
  | loop b ih => intro hc; exact ih hc
  | _ => intro _; trivial
end
end Go.Abs

/- Soundness 52: all operations; all levels; calls on closed values. -/
namespace Go.Abs
section
variable {P : Program} {E : Env} {cfg : Cfg} {lv : Lev} {C : Ctx} {ts : List (List Value)} {w : World} {a : Act} {st : St} {wr : Wrs} {g : Gh} {c : St → R} {res : Res}

theorem ops_ok (hT : TysOK P cfg.ty) (hQ : ∀ t ∈ cfg.eqs, EqOK P t) (hL : LevOK P E cfg lv) : OpsOK P E cfg lv := by
  intro C hE ts o slot st c res a w Q h ⟨wr, g, I⟩
  cases ho : o.op with
  | move x => exact ev_move (.inl ho) h I
  | assign x => exact ev_move (.inr ho) h I
  | pick x y z => exact ev_pick ho h I
  | alloc t => exact ev_alloc hT ho h I
  | box t x => exact ev_box hT ho h I
  | build t ps => exact ev_build hT ho h I
  | buildSlice t n ps => exact ev_buildSlice hT ho h I
  | load t x => exact ev_load hT ho h I
  | store t x y => exact ev_store hT ho h I
  | nilCheck x => exact ev_nilCheck ho h I
  | binOp op t x y t' => exact ev_binOp hT hQ ho h I
  | unOp op t x => exact ev_unOp ho h I
  | convert s d x => exact ev_convert hT ho h I
  | makeFunc fn fs cs => exact ev_makeFunc ho h I
  | makeSlice t x y => exact ev_makeSlice hT ho h I
  | slice t x lo hi mx => exact ev_slice hT ho h I
  | fieldAddr s x f => exact ev_fieldAddr hT ho h I
  | field s x f => exact ev_field hT ho h I
  | indexAddr t x i => exact ev_indexAddr hT ho h I
  | index t x i => exact ev_index hT ho h I
  | extract x i => exact ev_extract ho h I
  | call cl =>
    cases hc : cl.callee with
    | value fo => exact ev_callv hL hE ho hc h I
    | invoke r m => simp only [evOp, ho, hc] at h; obtain ⟨vs, h, _⟩ := opnds_sound I.good.env h; cases h
    | builtin b =>
      refine ev_builtin ho hc h I fun vals vs k hb H => ?_
      cases b with
      | len => exact b_len hT hb I H
      | append => exact b_append hT hb I H
      | min => exact b_min hb I H
      | max => exact b_max hb I H
      | _ => simp [builtinOp] at hb
  | _ => simp only [evOp, ho] at h; cases h

/-- what must be so of the tables -/
structure CfgOK (P : Program) (E : Env) (cfg : Cfg) : Prop where
  ty : TysOK P cfg.ty
  eqs : ∀ t ∈ cfg.eqs, EqOK P t
  fns : ∀ y ∈ cfg.fn, P.funcs[y.1]? = some y.2 ∧ (y.2.name == "runtime.NumGoroutine") = false ∧ ∀ b, y.2.body = some b → calmCode cfg y.1 b = true
  ext : ∀ f e, cfg.ext f = some e → ∀ (args : List AV) (res : Res), e args = some res → FnOK P f ∧
    ∀ (w : World) (vals : List Value), E.J w → E.N ≤ w.heap.size → ARs w Any vals args → Calls P f vals.toArray w fun en w' => ∃ v, en = .returned v ∧ Fr w Quiet w' ∧ PRes w w' v res.val

theorem fnK_inv {l : List (FuncId × Func)} {f : FuncId} {k : Func → R} (h : fnK l f k = some res) : ∃ fn, (f, fn) ∈ l ∧ k fn = some res := by
  induction l with
  | nil => simp [fnK] at h
  | cons y l ih =>
    obtain ⟨f', x⟩ := y
    simp only [fnK] at h
    split at h
    · rename_i e; subst e; exact ⟨x, by simp, h⟩
    · obtain ⟨fn, h1, h2⟩ := ih h; exact ⟨fn, by simp [h1], h2⟩
theorem VRs.undefs {h : Heap} : ∀ (n : Nat), VRs w h g (List.replicate n Go.undef) (List.replicate n .undef)
  | 0 => .nil
  | n + 1 => by rw [List.replicate_succ, List.replicate_succ]; exact .cons (.undef _) (VRs.undefs n)
theorem fn_ok (H : CfgOK P E cfg) {f : FuncId} {fn : Func} (hf : (f, fn) ∈ cfg.fn) {lv : Lev} {args : List AV} {stk : List (List AV)} {h : Heap} {k : AV → St → R} (hh : body cfg lv f fn args stk h k = some res) : FnOK P f := by
  obtain ⟨h1, h2, _⟩ := H.fns _ hf
  refine ⟨fn, h1, h2, ?_⟩
  unfold body at hh
  cases hb : fn.body with
  | none => rw [hb] at hh; cases hh
  | some b => rfl
theorem lev_ok (H : CfgOK P E cfg) : ∀ n, LevOK P E cfg (lev cfg n)
  | 0 => ⟨fun f args res _ h => by simp [lev] at h, fun f args st k res h => by simp [lev] at h⟩
  | n + 1 => by
    have hL := lev_ok H n
    have hO := ops_ok H.ty H.eqs hL
    refine ⟨fun f args res hm h => ?_, fun f args st k res h => ?_⟩
    · change runPure cfg (lev cfg n) f args = some res at h
      unfold runPure at h
      split at h
      · rename_i e he
        exact H.ext f e he args res h
      · obtain ⟨fn, hf, h⟩ := fnK_inv h
        rw [hm] at h
        simp only at h
        obtain ⟨h1, _, h3⟩ := H.fns _ hf
        have hok : ∃ avs hp, body cfg (lev cfg n) f fn avs [] hp (fun v st => match cfg.own f with
            | true => ta2 v st fun v st => outRow cfg f st fun out => some ⟨v, out⟩
            | false => none) = some res := by
          unfold openArgs at h
          have : ∀ (l row : List AV) (hp : Heap) (k : List AV → List AV → Heap → R), oa true l row hp k = some res → ∃ x y z, k x y z = some res := by
            have hop0 : ∀ (s : Nat) (v : AV) (row : List AV) (k : AV → List AV → R), op0 s v row k = some res → ∃ x y, k x y = some res := by
              intro s v row k hk
              cases v <;> simp only [op0] at hk <;> first
                | exact ⟨_, _, hk⟩
                | (cases hk; done)
                | exact ⟨_, _, addK_inv hk⟩
            have hopL : ∀ (s : Nat) (l row : List AV) (k : List AV → List AV → R), opL0 s l row k = some res → ∃ x y, k x y = some res := by
              intro s l
              induction l with
              | nil => exact fun row k hk => ⟨_, _, hk⟩
              | cons v l ih => intro row k hk; obtain ⟨x, y, hk⟩ := hop0 _ _ _ _ hk; exact ih _ _ hk |>.elim fun x h => h.elim fun y h => ⟨_, y, h⟩
            have hoaC : ∀ (l row : List AV) (hp : Heap) (k : List AV → List AV → Heap → R), oaC true l row hp k = some res → ∃ x y z, k x y z = some res := by
              intro l
              induction l with
              | nil => exact fun row hp k hk => ⟨_, _, _, hk⟩
              | cons v l ih =>
                intro row hp k hk
                cases v <;> simp only [oaC] at hk
                case pv cs => have hk := pushR_inv hk; obtain ⟨x, y, z, hk⟩ := ih _ _ _ hk; exact ⟨_, _, _, hk⟩
                case agg cs => obtain ⟨x, y, hk⟩ := hopL _ _ _ _ hk; obtain ⟨x, y, z, hk⟩ := ih _ _ _ hk; exact ⟨_, _, _, hk⟩
                all_goals (obtain ⟨x, y, hk⟩ := hop0 _ _ _ _ hk; obtain ⟨x, y, z, hk⟩ := ih _ _ _ hk; exact ⟨_, _, _, hk⟩)
            intro l
            induction l with
            | nil => exact fun row hp k hk => ⟨_, _, _, hk⟩
            | cons v l ih =>
              intro row hp k hk
              cases v <;> simp only [oa] at hk
              case pv cs => have hk := pushR_inv hk; obtain ⟨x, y, z, hk⟩ := ih _ _ _ hk; exact ⟨_, _, _, hk⟩
              case agg cs => obtain ⟨x, y, hk⟩ := hopL _ _ _ _ hk; obtain ⟨x, y, z, hk⟩ := ih _ _ _ hk; exact ⟨_, _, _, hk⟩
              case fn f cs => obtain ⟨x, y, z, hk⟩ := hoaC _ _ _ _ hk; obtain ⟨x, y, z, hk⟩ := ih _ _ _ hk; exact ⟨_, _, _, hk⟩
              all_goals (obtain ⟨x, y, hk⟩ := hop0 _ _ _ _ hk; obtain ⟨x, y, z, hk⟩ := ih _ _ _ hk; exact ⟨_, _, _, hk⟩)
          obtain ⟨x, y, z, h⟩ := this _ _ _ _ h
          exact ⟨_, _, setH_inv h⟩
        obtain ⟨_, _, hok⟩ := hok
        refine ⟨fn_ok H hf hok, fun w vals hJ hN HA => ?_⟩
        obtain ⟨avs, hp, g, h, hR, hV⟩ := openArgs_sound h HA
        let C : Ctx := ⟨E, w, Quiet, Any, fun _ _ _ => trivial, hJ, hN, fun _ _ h => h.elim⟩
        have hb := body_sound (C := C) (ts := []) (w := w) (wr := ⟨Quiet, Any⟩) (g := g) H.ty rfl hO h1 (fun b hb => draws_ok hO b (h3 b hb)) h hV.length (fun m => ⟨⟨hR, by
          simp only [Array.toList_append, Array.toList_replicate]
          exact hV.append (VRs.undefs m), .nil⟩, Fr.refl w Quiet, fun _ _ h _ => h.elim, rfl, rfl⟩)
        refine hb.mono fun en w' ⟨v, av, a', st', wr', g', he, I, hv, hk⟩ => ⟨v, he, I.fr, ?_⟩
        split at hk
        · obtain ⟨x, st'', hk, hr⟩ := I.answer (fun _ _ h => h) hk hv
          unfold outRow at hk
          rw [hm] at hk
          simp only [Option.some.injEq] at hk
          subst hk
          exact hr
        · cases hk
    · change runInl cfg (lev cfg n) f args st k = some res at h
      unfold runInl at h
      obtain ⟨fn, hf, h⟩ := fnK_inv h
      obtain ⟨h1, _, h3⟩ := H.fns _ hf
      refine ⟨fn_ok H hf h, fun C ts w a wr g vals hE I hv => ?_⟩
      have hb := body_sound (C := C) (ts := a.tmps.toList :: ts) (w := w) (wr := wr) (g := g) H.ty hE hO h1 (fun b hb => draws_ok hO b (h3 b hb)) h hv.length (fun m => ⟨⟨I.good.rel, by
          simp only [Array.toList_append, Array.toList_replicate]
          exact hv.append (VRs.undefs m), .cons I.good.env I.good.stk⟩, I.fr, I.can, I.dom, rfl⟩)
      refine hb.mono fun en w' ⟨v, av, a', st', wr', g', he, I', hv', hk⟩ => ?_
      have hst := I'.good.stk
      split at hk
      · rename_i e s hs
        rw [hs] at hst
        cases hst with
        | cons k1 k2 => exact ⟨v, av, ⟨e, s, st'.heap⟩, wr', g', he, ⟨⟨I'.good.rel, k1, k2⟩, I'.fr, I'.can, I'.dom, I.nodef⟩, hv', hk⟩
      · cases hk
/-- What the machine answers, the program answers. -/
theorem callP_sound (H : CfgOK P E cfg) {n : Nat} {f : FuncId} {args : List AV} (hm : cfg.mode f = 0) (h : callP cfg n f args = some res) {vals : List Value} (hJ : E.J w) (hN : E.N ≤ w.heap.size) (HA : ARs w Any vals args) :
    Calls P f vals.toArray w fun e w' => ∃ v, e = .returned v ∧ Fr w Quiet w' ∧ PRes w w' v res.val := by
  unfold callP at h
  exact ((lev_ok H n).pure f args res hm h).2 w vals hJ hN HA
end
end Go.Abs

/- Soundness 53: the tables, checked. -/
namespace Go.Abs

theorem TyOK.of {P : Program} {t : TypeId} {x : TInfo} {d : TypeDesc} {cells : List Value} (hu : P.underlying t = some d) (hs : ShOK x.shape d)
    (hi : (P.info? t).map (fun i => (i.size, i.bytes, i.zero.map fun z => z.cells.toList)) = some (x.size, x.bytes, some cells)) (hz : cells.map some = x.zero.map zv) (hl : x.zero.length = x.size)
    (h1 : (match x.shape with | .struct _ => true | _ => decide (x.size = 1)) = true) (hf : (match x.shape with | .struct fs => fs.all fun p => (P.info? p.2).isSome | _ => true) = true) (hp : 0 < x.size) : TyOK P t x := by
  refine ⟨⟨d, hu, hs⟩, ?_, hl, fun hn => ?_, fun fs hfs p hpm => ?_, hp⟩
  · cases hq : P.info? t with
    | none => rw [hq] at hi; cases hi
    | some i =>
      rw [hq] at hi
      simp only [Option.map_some, Option.some.injEq, Prod.mk.injEq] at hi
      obtain ⟨e1, e2, e3⟩ := hi
      cases hz' : i.zero with
      | none => rw [hz'] at e3; cases e3
      | some z =>
        rw [hz'] at e3
        simp only [Option.map_some, Option.some.injEq] at e3
        exact ⟨i, z, rfl, e1, e2, hz', by rw [e3]; exact hz⟩
  · split at h1
    · rename_i fs hfs; exact absurd hfs (hn fs)
    · simpa using h1
  · rw [hfs] at hf
    exact List.all_eq_true.1 hf p hpm
def fnChk (cfg : Cfg) (y : FuncId × Func) : Bool := !(y.2.name == "runtime.NumGoroutine") && (match y.2.body with | some b => calmCode cfg y.1 b | none => true)
theorem fns_ok {P : Program} {cfg : Cfg} {l : List (FuncId × Func)} (h1 : ∀ y ∈ l, P.funcs[y.1]? = some y.2) (h2 : l.all (fnChk cfg) = true) :
    ∀ y ∈ l, P.funcs[y.1]? = some y.2 ∧ (y.2.name == "runtime.NumGoroutine") = false ∧ ∀ b, y.2.body = some b → calmCode cfg y.1 b = true := by
  intro y hy
  have := List.all_eq_true.1 h2 y hy
  unfold fnChk at this
  rw [Bool.and_eq_true, Bool.not_eq_true'] at this
  refine ⟨h1 y hy, this.1, fun b hb => ?_⟩
  have h := this.2
  rw [hb] at h
  exact h
theorem callP_def (cfg : Cfg) (n : Nat) (f : FuncId) (args : List AV) : (lev cfg n).pure f args = callP cfg n f args := by unfold callP; rfl
def memP : List (Nat × Nat) → Nat → Nat → Bool
  | [], _, _ => false
  | (a, b) :: l, x, y => if a = x then (if b = y then true else memP l x y) else memP l x y
def memN : List Nat → Nat → Bool
  | [], _ => false
  | a :: l, x => if a = x then true else memN l x

/-- nothing is asked of the world -/
def envAny : Env := ⟨fun _ => True, 0, fun _ _ _ _ _ _ _ => trivial⟩

/-! ### arguments -/
theorem AR.int {w : World} {k : IntKind} {n : Int} : AR w Any (.int k n) (.int k n) := .pv (.leaf (TR.int k n))
theorem AR.str {w : World} {s : ByteArray} : AR w Any (.string s) (.str s) := .pv (.leaf (TR.str s))
theorem AR.bool {w : World} {b : Bool} : AR w Any (.bool b) (.bool b) := .pv (.leaf (TR.bool b))
end Go.Abs

/- Soundness 54: the arguments of a statement are trees. -/
namespace Go.Abs
open Go.Deep

def look : List (TypeId × TInfo) → TypeId → Option TInfo
  | [], _ => none
  | (t', x) :: l, t => if t' = t then some x else look l t
theorem look_mem {l : List (TypeId × TInfo)} {t : TypeId} {x : TInfo} (h : look l t = some x) : (t, x) ∈ l := by
  induction l with
  | nil => cases h
  | cons a l ih =>
    obtain ⟨t', y⟩ := a
    simp only [look] at h
    split at h
    · rename_i e; subst e; cases h; simp
    · simp [ih h]
def szOf (l : List (TypeId × TInfo)) (t : TypeId) : Nat := match look l t with
  | some x => x.size
  | none => 0
def TyF (T : TypeId → List AV → Prop) : List (Nat × TypeId) → List AV → Prop
  | [], avs => avs = []
  | p :: fs, avs => ∃ a b, avs = a ++ b ∧ T p.2 a ∧ TyF T fs b
/-- cells that a value of a type may have -/
def Ty (l : List (TypeId × TInfo)) : Nat → TypeId → List AV → Prop
  | 0, _, _ => False
  | n + 1, t, avs => match look l t with
    | none => False
    | some x => match x.shape with
      | .bool => ∃ b, avs = [.bool b]
      | .int k => ∃ i, avs = [.int k i] ∧ k.min ≤ i ∧ i ≤ k.max
      | .str => ∃ s, avs = [.str s] ∧ s.size ≤ maxLen
      | .slice e => ∃ rows : Rows, avs = [.lst (szOf l e) rows] ∧ rows.length ≤ maxLen ∧ ∀ row ∈ rows, Ty l n e row
      | .struct fs => TyF (Ty l n) fs avs
      | _ => False
def contig (l : List (TypeId × TInfo)) : Nat → List (Nat × TypeId) → Nat → Bool
  | off, [], total => off == total
  | off, (o, t) :: fs, total => o == off && contig l (off + szOf l t) fs total
def good (l : List (TypeId × TInfo)) : Nat → TypeId → Bool
  | 0, _ => false
  | n + 1, t => match look l t with
    | none => false
    | some x => match x.shape with
      | .bool | .int _ | .str => true
      | .slice e => good l n e
      | .struct fs => contig l 0 fs x.size && fs.all fun p => good l n p.2
      | _ => false
theorem mapM_some {α β : Type} {f : α → Option β} : ∀ {l : List α} {r : List β}, l.mapM f = some r → r.length = l.length ∧ ∀ (i : Nat) (x : α), l[i]? = some x → f x = r[i]?
  | [], r, h => by
    simp at h
    subst h
    exact ⟨rfl, fun i x hx => by simp at hx⟩
  | a :: l, r, h => by
    rw [List.mapM_cons] at h
    cases hf : f a with
    | none => rw [hf] at h; cases h
    | some b =>
      rw [hf] at h
      cases hm : l.mapM f with
      | none => rw [hm] at h; cases h
      | some r' =>
        rw [hm] at h
        cases h
        obtain ⟨h1, h2⟩ := mapM_some hm
        refine ⟨by simp [h1], fun i x hx => ?_⟩
        cases i with
        | zero => simp at hx; subst hx; simpa using hf
        | succ i => simpa using h2 i x (by simpa using hx)
theorem cells_some {w : World} {base : Nat} {ad : Addr} {n : Nat} {cs : List Value} (h : w.cells? base ad n = some cs) : cs.length = n ∧ ∀ i v, cs[i]? = some v → w.cell? (ad.add i) = some v := by
  unfold World.cells? at h
  split at h
  · obtain ⟨h1, h2⟩ := mapM_some h
    simp only [List.length_range] at h1
    refine ⟨h1, fun i v hv => ?_⟩
    have hi : i < n := by rw [← h1]; exact (List.getElem?_eq_some_iff.1 hv).1
    rw [h2 i i (by simp [hi]), hv]
  · cases h
theorem Leaves.split {w : World} {K : CS} : ∀ {vs : List Value} {l : List AV} (n : Nat), Leaves w K (vs.take n) l → ∀ {m : List AV}, Leaves w K (vs.drop n) m → Leaves w K vs (l ++ m)
  | [], _, n, h1, m, h2 => by
    simp only [List.take_nil] at h1
    simp only [List.drop_nil] at h2
    cases h1
    exact h2
  | v :: vs, l, 0, h1, m, h2 => by
    simp only [List.take_zero] at h1
    cases h1
    exact h2
  | v :: vs, l, n + 1, h1, m, h2 => by
    simp only [List.take_succ_cons] at h1
    simp only [List.drop_succ_cons] at h2
    cases h1 with
    | cons a b => exact .cons a (Leaves.split n b h2)
theorem Leaves.of {w : World} {K : CS} : ∀ {vs : List Value} {l : List AV}, vs.length = l.length → (∀ (j : Nat) (v : Value) (a : AV), vs[j]? = some v → l[j]? = some a → Leaf w K v a) → Leaves w K vs l
  | [], [], _, _ => .nil
  | [], _ :: _, h, _ => by simp at h
  | _ :: _, [], h, _ => by simp at h
  | v :: vs, a :: l, h, hj => .cons (hj 0 v a rfl rfl) (Leaves.of (by simpa using h) fun j v' a' h1 h2 => hj (j + 1) v' a' (by simpa using h1) (by simpa using h2))

section
variable {H : Type} {enc : TypeId × Value → H} {P : Program} {w : World} {base : Nat} {held : Bool} {l : List (TypeId × TInfo)}
theorem cellsOf_of (hT : TysOK P l) {t : TypeId} {x : TInfo} (h : look l t = some x) : P.cellsOf t = x.size := by
  obtain ⟨_, ⟨i, z, h1, h2, _⟩, _⟩ := hT _ (look_mem h)
  simp only at h1 h2
  simp [Program.cellsOf, h1, h2]
theorem trod_ty (hT : TysOK P l) : ∀ (n : Nat) (t : TypeId) (x : TInfo) (fuel : Nat) (cs : List Value) (d : DataW H × List MemPlace), good l n t = true → look l t = some x → DataW.trod enc P w base (fun _ => true) held fuel t cs = some d →
    ∃ avs, Ty l n t avs ∧ Leaves w Any cs avs ∧ avs.length = x.size := by
  intro n
  induction n with
  | zero => intro t x fuel cs d hg; simp [good] at hg
  | succ n ih =>
    intro t x fuel cs d hg hx h
    have hok := hT _ (look_mem hx)
    obtain ⟨⟨ds, hu, hsh⟩, _, _, hone, _, hpos⟩ := hok
    simp only at hu hsh hone hpos
    cases fuel with
    | zero => simp [DataW.trod] at h
    | succ fuel =>
    simp only [good, hx] at hg
    simp only [Ty, hx]
    have one : (∀ fs, x.shape ≠ .struct fs) → x.size = 1 := hone
    cases hs : x.shape with
    | bool =>
      rw [hs] at hsh
      simp only [ShOK] at hsh
      subst hsh
      have : ∃ b, cs = [.bool b] := by
        cases cs with
        | nil => simp [DataW.trod, hu] at h
        | cons v tl => cases tl with
          | nil => cases v <;> first | exact ⟨_, rfl⟩ | (simp [DataW.trod, hu] at h; done)
          | cons => simp [DataW.trod, hu] at h
      obtain ⟨b, rfl⟩ := this
      exact ⟨_, ⟨_, rfl⟩, .cons (TR.bool _) .nil, (by rw [one (by simp [hs])]; rfl)⟩
    | int k =>
      rw [hs] at hsh
      simp only [ShOK] at hsh
      subst hsh
      have : ∃ k' i, cs = [.int k' i] := by
        cases cs with
        | nil => simp [DataW.trod, hu] at h
        | cons v tl => cases tl with
          | nil => cases v <;> first | exact ⟨_, _, rfl⟩ | (simp [DataW.trod, hu] at h; done)
          | cons => simp [DataW.trod, hu] at h
      obtain ⟨k', i, rfl⟩ := this
      simp only [DataW.trod, hu] at h
      split at h
      · rename_i hk
        obtain ⟨rfl, hwf⟩ := hk
        simp only [Lit.wf, Bool.and_eq_true, decide_eq_true_eq] at hwf
        exact ⟨_, ⟨_, rfl, hwf.1, hwf.2⟩, .cons (TR.int _ _) .nil, (by rw [one (by simp [hs])]; rfl)⟩
      · cases h
    | str =>
      rw [hs] at hsh
      simp only [ShOK] at hsh
      subst hsh
      have : ∃ s, cs = [.string s] := by
        cases cs with
        | nil => simp [DataW.trod, hu] at h
        | cons v tl => cases tl with
          | nil => cases v <;> first | exact ⟨_, rfl⟩ | (simp [DataW.trod, hu] at h; done)
          | cons => simp [DataW.trod, hu] at h
      obtain ⟨s, rfl⟩ := this
      simp only [DataW.trod, hu] at h
      split at h
      · rename_i hk
        exact ⟨_, ⟨_, rfl, hk⟩, .cons (TR.str _) .nil, (by rw [one (by simp [hs])]; rfl)⟩
      · cases h
    | slice e =>
      rw [hs] at hsh
      simp only [ShOK] at hsh
      subst hsh
      simp only [hs] at hg
      have hsz := one (by simp [hs])
      cases hy : look l e with
      | none => cases n <;> simp [good, hy] at hg
      | some y =>
        have hcell := cellsOf_of hT hy
        have hypos := (hT _ (look_mem hy)).pos
        simp only at hypos
        have hszo : szOf l e = y.size := by simp [szOf, hy]
        rcases open_slice hu h with ⟨rfl, _⟩ | ⟨ad, len, cap, m, fu, D, Pl, rfl, hb, hlc, hcm, hm, _, hel⟩
        · exact ⟨[.lst (szOf l e) []], ⟨[], rfl, Nat.zero_le _, fun row hr => by simp at hr⟩, .cons TR.nil .nil, by simp [hsz]⟩
        · simp only [if_true] at hm
          subst hm
          have each : ∀ i, i < m → ∃ row, Ty l n e row ∧ row.length = y.size ∧ (∀ j a, row[j]? = some a → ∃ v, w.cell? (ad.add (i * y.size + j)) = some v ∧ Leaf w Any v a) := by
            intro i hi
            obtain ⟨cs', hc1, hc2⟩ := hel i hi
            rw [hcell] at hc1
            obtain ⟨hc3, hc4⟩ := cells_some hc1
            obtain ⟨row, h1, h2, h3⟩ := ih e y fu cs' _ hg hy hc2
            refine ⟨row, h1, h3, fun j a ha => ?_⟩
            obtain ⟨v, hv, hlf⟩ := h2.get ha
            have := hc4 j v hv
            rw [add_add] at this
            exact ⟨v, this, hlf⟩
          obtain ⟨f, hf⟩ := choose_lt (n := m) each
          have hrows : ((List.range len).map f).length = len := by simp
          refine ⟨[.lst (szOf l e) ((List.range len).map f)], ⟨_, rfl, by rw [hrows]; omega, fun row hr => ?_⟩, .cons ?_ .nil, by simp [hsz]⟩
          · obtain ⟨i, hi, rfl⟩ := List.mem_map.1 hr
            exact (hf i (by have := List.mem_range.1 hi; omega)).1
          · rw [hszo]
            by_cases hm0 : m = 0
            · subst hm0
              obtain rfl : len = 0 := by omega
              exact TR.nil
            · obtain ⟨_, hl0, hc0⟩ := hf 0 (by omega)
              have h00 : (f 0)[0]? = some (f 0)[0] := List.getElem?_eq_getElem (by omega)
              obtain ⟨v0, hv0, _⟩ := hc0 0 _ h00
              have hspot : ad.spot = none := by
                have : ad.add (0 * y.size + 0) = ad := by simp [Addr.add]
                rw [this] at hv0
                simp only [World.cell?] at hv0
                split at hv0
                · split at hv0
                  · cases hv0
                  · rename_i hsp; simpa using hsp
                · cases hv0
              obtain ⟨b, o, sp⟩ := ad
              simp only at hspot
              subst hspot
              simp only [Addr.add_eq] at hf hv0
              obtain ⟨arr, te, fz, hbk, _⟩ := cell_heap hv0
              obtain ⟨_, hl1, hc1⟩ := hf (m - 1) (by omega)
              have h11 : (f (m - 1))[y.size - 1]? = some (f (m - 1))[y.size - 1] := List.getElem?_eq_getElem (by omega)
              obtain ⟨v1, hv1, _⟩ := hc1 _ _ h11
              rw [cell_of hbk] at hv1
              have hlt := (Array.getElem?_eq_some_iff.1 hv1).1
              have hbound : o + m * y.size ≤ arr.size := by
                have : (m - 1) * y.size + y.size = m * y.size := by rw [← Nat.succ_mul]; congr 1; omega
                omega
              have hmain := TR.lst (w := w) (own := false) (K := Any) (S := fun k => k < w.heap.size) (b := b) (o := o) (c := m) (cs := arr) (e := te) (fz := fz) (sz := y.size) (rows := (List.range len).map f) (fun _ _ k => k < w.heap.size)
                hbk hbound (by rw [hrows]; exact hlc) (fun row hr => by
                  obtain ⟨i, hi, rfl⟩ := List.mem_map.1 hr
                  exact (hf i (by have := List.mem_range.1 hi; omega)).2.1) ⟨Nat.mul_pos (by omega) hypos, fun _ _ _ => trivial⟩ (get_lt hbk) (fun _ _ _ h => h) (fun h => by cases h) (fun i j row a hr ha => by
                  rw [List.getElem?_map, Option.map_eq_some_iff] at hr
                  obtain ⟨i', hi', rfl⟩ := hr
                  have hil : i < len := by
                    have := (List.getElem?_eq_some_iff.1 hi').1
                    simpa using this
                  have : i' = i := by
                    rw [List.getElem?_range hil] at hi'
                    simpa using hi'.symm
                  subst this
                  obtain ⟨v, hv, hlf⟩ := (hf i' (by omega)).2.2 j a ha
                  rw [cell_of hbk, ← Nat.add_assoc] at hv
                  rw [getD_of hv]
                  exact hlf)
              rw [hrows] at hmain
              exact hmain
    | struct fs =>
      rw [hs] at hsh
      obtain ⟨fa, rfl, hfa⟩ := hsh
      simp only [hs, Bool.and_eq_true] at hg
      have h' : cs.length = P.cellsOf t ∧ ∃ xs, (fa.toList.mapM fun f => DataW.trod enc P w base (fun _ => true) held fuel f.type ((cs.drop f.offset).take (P.cellsOf f.type))) = some xs := by
        have e1 : DataW.trod enc P w base (fun _ => true) held (fuel + 1) t cs = (if cs.length = P.cellsOf t then (fa.toList.mapM fun f => DataW.trod enc P w base (fun _ => true) held fuel f.type ((cs.drop f.offset).take (P.cellsOf f.type))).map fun xs => (.agg (xs.map (·.1)), xs.flatMap (·.2)) else none) := by
          rw [DataW.trod]
          simp only [hu]
        rw [e1] at h
        split at h
        · rename_i hl
          refine ⟨hl, ?_⟩
          cases hm : (fa.toList.mapM fun f => DataW.trod enc P w base (fun _ => true) held fuel f.type ((cs.drop f.offset).take (P.cellsOf f.type))) with
          | none => rw [hm] at h; cases h
          | some xs => exact ⟨xs, rfl⟩
        · cases h
      obtain ⟨hl, xs, hxs⟩ := h'
      rw [cellsOf_of hT hx] at hl
      have each : ∀ p ∈ fs, ∃ d', DataW.trod enc P w base (fun _ => true) held fuel p.2 ((cs.drop p.1).take (P.cellsOf p.2)) = some d' := by
        intro p hp
        rw [← hfa] at hp
        obtain ⟨f, hf, rfl⟩ := List.mem_map.1 hp
        obtain ⟨i, hi⟩ := List.mem_iff_getElem?.1 hf
        obtain ⟨k1, k2⟩ := mapM_some hxs
        have hk := k2 i f hi
        have hil : i < xs.length := by rw [k1]; exact (List.getElem?_eq_some_iff.1 hi).1
        rw [List.getElem?_eq_getElem hil] at hk
        exact ⟨_, hk⟩
      have go : ∀ (fs' : List (Nat × TypeId)) (off : Nat), (∀ p ∈ fs', p ∈ fs) → contig l off fs' x.size = true → fs'.all (fun p => good l n p.2) = true → ∃ avs, TyF (Ty l n) fs' avs ∧ Leaves w Any (cs.drop off) avs := by
        intro fs'
        induction fs' with
        | nil =>
          intro off _ hc _
          simp only [contig, beq_iff_eq] at hc
          refine ⟨[], rfl, ?_⟩
          rw [List.drop_eq_nil_of_le (by omega)]
          exact .nil
        | cons p fs' ihf =>
          intro off hsub hc hgd
          obtain ⟨o, t'⟩ := p
          simp only [contig, Bool.and_eq_true, beq_iff_eq] at hc
          obtain ⟨rfl, hc⟩ := hc
          simp only [List.all_cons, Bool.and_eq_true] at hgd
          obtain ⟨b, hb1, hb2⟩ := ihf (o + szOf l t') (fun p hp => hsub p (by simp [hp])) hc hgd.2
          obtain ⟨d', hd'⟩ := each (o, t') (hsub _ (by simp))
          simp only at hd'
          cases hy : look l t' with
          | none =>
            have := hgd.1
            cases n <;> simp [good, hy] at this
          | some y =>
            obtain ⟨a, ha1, ha2, ha3⟩ := ih t' y fuel _ d' hgd.1 hy hd'
            have hszo : szOf l t' = y.size := by simp [szOf, hy]
            rw [cellsOf_of hT hy] at ha2
            rw [hszo, ← List.drop_drop] at hb2
            exact ⟨a ++ b, ⟨a, b, rfl, ha1, hb1⟩, Leaves.split y.size ha2 hb2⟩
      obtain ⟨avs, h1, h2⟩ := go fs 0 (fun _ h => h) hg.1 hg.2
      rw [List.drop_zero] at h2
      exact ⟨avs, h1, h2, by rw [← h2.length, hl]⟩
    | ptr e => simp [hs] at hg
    | func => simp [hs] at hg
    | other => simp [hs] at hg
end
end Go.Abs

/- Soundness 55: a statement that answers true. -/
namespace Go.Abs
open Go.ChangeShapes Go.WideShapes Go.RowKit

def un1 (avs : List AV) : AV := match avs with
  | [a] => a
  | _ => .undef
def argA (x : TInfo) (avs : List AV) : AV := match x.shape with
  | .struct _ => .agg avs
  | _ => un1 avs
inductive TyArgs (l : List (TypeId × TInfo)) : List TypeId → List AV → Prop
  | nil : TyArgs l [] []
  | cons {t : TypeId} {x : TInfo} {avs : List AV} {ts : List TypeId} {as : List AV} (hx : look l t = some x) (h1 : Ty l 9 t avs) (h2 : TyArgs l ts as) : TyArgs l (t :: ts) (argA x avs :: as)
theorem Fr.below {w w' : World} (F : Fr w Quiet w') : Go.RowKit.Below w.heap.size w w' := ⟨F.os, F.tape, F.output, F.size, fun k hk => F.block k hk (fun _ h => h)⟩
section
variable {H : Type} {enc : TypeId × Value → H} {P : Program} {cfg : Cfg} {W : World} {base : Nat}

theorem arg_of (hT : TysOK P cfg.ty) {t : TypeId} {v : Value} {d : DataW H} {p : List MemPlace} (hg : good cfg.ty 9 t = true) (h : DataW.Trod enc P W 0 (fun _ => true) true t v d p) (hv : Value.okWide P W .any base t v) :
    ∃ x avs, look cfg.ty t = some x ∧ Ty cfg.ty 9 t avs ∧ AR W Any v (argA x avs) := by
  obtain ⟨fuel, hf⟩ := h
  cases hx : look cfg.ty t with
  | none => simp [good, hx] at hg
  | some x =>
    obtain ⟨avs, h1, h2, h3⟩ := trod_ty hT 9 t x fuel _ _ hg hx hf
    refine ⟨x, avs, rfl, h1, ?_⟩
    obtain ⟨⟨ds, hu, hsh⟩, _, _, hone, _⟩ := hT _ (look_mem hx)
    simp only at hu hsh hone
    unfold argA
    have single : v.cells.toList = [v] → x.size = 1 → AR W Any v (un1 avs) := by
      intro hc hs
      rw [hc] at h2
      cases h2 with
      | cons k1 k2 => cases k2; exact .pv (.leaf k1)
    cases hs : x.shape with
    | struct fs =>
      rw [hs] at hsh
      obtain ⟨fa, rfl, _⟩ := hsh
      simp only [Value.okWide, hu] at hv
      obtain ⟨cs, rfl, _⟩ := hv
      simp only
      have := AR.agg h2
      simpa [Value.cells] using this
    | bool =>
      rw [hs] at hsh
      simp only [ShOK] at hsh
      subst hsh
      simp only [Value.okWide, hu, Cell.okWide, Cell.ok] at hv
      simp only
      refine single ?_ (hone (by simp [hs]))
      cases v <;> first | rfl | (cases hv; done)
    | int k =>
      rw [hs] at hsh
      simp only [ShOK] at hsh
      subst hsh
      simp only [Value.okWide, hu, Cell.okWide, Cell.ok] at hv
      simp only
      refine single ?_ (hone (by simp [hs]))
      cases v <;> first | rfl | (cases hv; done)
    | str =>
      rw [hs] at hsh
      simp only [ShOK] at hsh
      subst hsh
      simp only [Value.okWide, hu, Cell.okWide, Cell.ok] at hv
      simp only
      refine single ?_ (hone (by simp [hs]))
      cases v <;> first | rfl | (cases hv; done)
    | slice e =>
      rw [hs] at hsh
      simp only [ShOK] at hsh
      subst hsh
      simp only [Value.okWide, hu, Cell.okWide, Cell.ok] at hv
      simp only
      refine single ?_ (hone (by simp [hs]))
      cases v <;> first | rfl | (cases hv; done)
    | ptr e => simp [good, hx, hs] at hg
    | func => simp [good, hx, hs] at hg
    | other => simp [good, hx, hs] at hg
theorem args_of (hT : TysOK P cfg.ty) : ∀ {ts : List TypeId} {vs : List Value} {ds : List (DataW H)} {ps : List MemPlace}, (∀ t ∈ ts, good cfg.ty 9 t = true) → DataW.TrodAll enc P W 0 (fun _ => true) true ts vs ds ps →
    (∀ (j : Nat) t v, ts[j]? = some t → vs[j]? = some v → Value.okWide P W .any base t v) → ∃ as, TyArgs cfg.ty ts as ∧ ARs W Any vs as
  | [], [], [], _, _, _, _ => ⟨[], .nil, .nil⟩
  | t :: ts, v :: vs, d :: ds, _, hg, ⟨p, q, h1, h2, _⟩, hv => by
    obtain ⟨x, avs, e1, e2, e3⟩ := arg_of hT (hg t (by simp)) h1 (hv 0 t v rfl rfl)
    obtain ⟨as, e4, e5⟩ := args_of hT (fun t ht => hg t (by simp [ht])) h2 (fun j t v a b => hv (j + 1) t v (by simpa using a) (by simpa using b))
    exact ⟨_, .cons e1 e2 e4, .cons e3 e5⟩
theorem trods_len {w : World} {b : Nat} {sp : Nat → Bool} {hd : Bool} : ∀ {ts : List TypeId} {vs : List Value} {ds : List (DataW H)} {ps : List MemPlace}, DataW.TrodAll enc P w b sp hd ts vs ds ps → ds.length = ts.length
  | [], [], [], _, _ => rfl
  | _ :: _, _ :: _, _ :: _, _, ⟨_, _, _, h2, _⟩ => by simp [trods_len h2]
theorem trods_stay (hl : laidOutB P = true) {W' : World} (hb : Go.RowKit.Below W.heap.size W W') : ∀ {ts : List TypeId} {vs : List Value} {ds : List (DataW H)} {ps : List MemPlace}, (∀ t ∈ ts, P.readableRec t = true ∧ t < P.types.size) → DataW.TrodAll enc P W 0 (fun _ => true) true ts vs ds ps →
    (∀ x ∈ ps, x.block < W.heap.size) → DataW.TrodAll enc P W' 0 (fun b => decide (b < W.heap.size)) true ts vs ds ps
  | [], [], [], _, _, h, _ => h
  | t :: ts, v :: vs, d :: ds, _, hr, ⟨p, q, h1, h2, e⟩, hlt => by
    subst e
    exact ⟨p, q, Go.RowKit.Below.trod hl (hr t (by simp)).1 (hr t (by simp)).2 h1 hb (fun x hx => hlt x (by simp [hx])), trods_stay hl hb (fun t ht => hr t (by simp [ht])) h2 (fun x hx => hlt x (by simp [hx])), rfl⟩

/-- The contract of a statement's function that hands back true, whatever it is given. -/
theorem law_contract (hc : CfgOK P envAny cfg) {s : ChangeSpec} {fn : Func} {fid : FuncId} {ts : List TypeId} {tb : TypeId} {apart fresh handsOn : Bool}
    (hpar : fn.params.toList = ts) (hres : fn.resultTypes = #[tb]) (htb : P.underlying tb = some .bool) (hvars : s.vars = [])
    (hfn : ∀ ds : List (DataW H), ds.length = ts.length → s.fn H ds = { results := [.lit (.bool true)], args := ds }) (hl : laidOutB P = true) (hr : ∀ t ∈ ts, P.readableRec t = true ∧ t < P.types.size) (hm : cfg.mode fid = 0)
    (hg : ∀ t ∈ ts, good cfg.ty 9 t = true) (pure : ∀ as, TyArgs cfg.ty ts as → ∃ n out, callP cfg n fid as = some ⟨.bool true, out⟩)
    {args : Array Value} {ds gs : List (DataW H)} {before : List MemPlace} (hval : ∀ (j : Nat) t v, fn.params[j]? = some t → args[j]? = some v → Value.okWide P W .any base t v)
    (hW : DataW.Whole enc P fn.params.toList s.vars apart W args.toList ds gs before) :
    Calls P fid args W fun e W' => ∃ v, e = .returned v ∧ s.post enc P fn apart fresh handsOn false W args v W' := by
  have hW' := hW
  have hlt0 : ∀ p ∈ before, p.block < W.heap.size := fun p hp => hW.lt p hp
  obtain ⟨p, q, hA, hV, rfl, hfz, hnd⟩ := hW
  rw [hvars] at hV
  obtain ⟨rfl, rfl⟩ := trodVars_none hV
  rw [hpar] at hA
  obtain ⟨as, e1, e2⟩ := args_of hc.ty hg hA (fun j t v a b => hval j t v (by rw [← Array.getElem?_toList, hpar]; exact a) (by rw [← Array.getElem?_toList]; exact b))
  obtain ⟨n, out, hn⟩ := pure as e1
  have hcall := callP_sound hc hm hn (w := W) trivial (Nat.zero_le _) e2
  rw [Array.toArray_toList] at hcall
  refine hcall.mono fun e W' ⟨v, he, F, T⟩ => ⟨v, he, ?_⟩
  obtain ⟨Ss, T, _⟩ := T
  have hvb : v = .bool true := by
    cases T with
    | one T => cases T with
      | one T => cases T; rfl
  subst hvb
  have hlen : ds.length = ts.length := trods_len hA
  have hsf := hfn ds hlen
  have hlt : ∀ x ∈ p, x.block < W.heap.size := fun x hx => hlt0 x (by simp [hx])
  refine ⟨ds, [], p ++ [], [], p, [], hW', ?_, ?_, ?_, F.below.frame _, fun h => (nomatch h)⟩
  · rw [List.append_nil, hsf, hres]
    exact trodAll_mk1 (shut_bool htb true)
  · rw [List.append_nil, hsf, hpar]
    exact trods_stay hl F.below hr hA hlt
  · rw [hvars, List.append_nil, hsf]
    rfl
end
end Go.Abs

/- The abstract machine, run: heads. -/
namespace Go.Abs
theorem br_pos {b : Bool} {x y : R} (h : b = true) : br b x y = x := by subst h; exact br_true _ _
theorem br_neg {b : Bool} {x y : R} (h : b = false) : br b x y = y := by subst h; exact br_false _ _
theorem bnd_call {cfg : Cfg} {n : Nat} {f : FuncId} {args : List AV} {v : Res} {k : Res → R} (h : callP cfg n f args = some v) : bnd ((lev cfg n).pure f args) k = k v := by
  rw [callP_def, h, bnd_some]
theorem both_eq {x y r : R} (hx : x = r) (hy : y = r) : both x y = r := both_of hx hy
theorem br_if {b : Bool} {x y r : R} (ht : b = true → x = r) (hf : b = false → y = r) : br b x y = r := br_cases ht hf
end Go.Abs

/- The abstract machine, run: loops, symbolic lists. -/
namespace Go.Abs

theorem evLoop_run {n : Nat} {live : List Nat} {body : St → (Exit → St → R) → R} {c : Exit → St → R} {fuel : Nat} {e : List AV} {s : List (List AV)} {h : Heap} (E : List AV → Nat → List AV) (H : Heap → Nat → Heap) (F : Nat → R) (N : Nat) (hN : N < fuel)
    (h0 : (⟨E e 0, s, H h 0⟩ : St) = ⟨e, s, h⟩)
    (step : ∀ k f, k ≤ N → (k < N → ∀ e' h', e' = E e (k + 1) → h' = H h (k + 1) → evLoop n live body f ⟨e', s, h'⟩ c = F (k + 1)) → (body ⟨E e k, s, H h k⟩ fun x st => match x with
      | .normal => clean n live st fun st => evLoop n live body f st c
      | x => c x st) = F k) : evLoop n live body fuel ⟨e, s, h⟩ c = F 0 := by
  have main : ∀ d k f, k ≤ N → N - k = d → d < f → evLoop n live body f ⟨E e k, s, H h k⟩ c = F k := by
    intro d
    induction d with
    | zero =>
      intro k f hk hd hf
      obtain ⟨f, rfl⟩ : ∃ m, f = m + 1 := ⟨f - 1, by omega⟩
      rw [evLoop_succ]
      exact step k f hk (fun hlt => absurd hlt (by omega))
    | succ d ih =>
      intro k f hk hd hf
      obtain ⟨f, rfl⟩ : ∃ m, f = m + 1 := ⟨f - 1, by omega⟩
      rw [evLoop_succ]
      exact step k f hk (fun hlt e' h' he hh => by rw [he, hh]; exact ih (k + 1) f (by omega) (by omega) (by omega))
  rw [← h0]
  exact main N 0 fuel (Nat.zero_le _) (by omega) hN
theorem getRow_eq {l : Rows} {i : Nat} {row : List AV} {k : List AV → R} (h : l[i]? = some row) : getRow l i k = k row := by
  induction l generalizing i with
  | nil => simp at h
  | cons a l ih => cases i with
    | zero => simp at h; subst h; rfl
    | succ i => exact ih (by simpa using h)
theorem map_get {α : Type} [Inhabited α] {l : List α} {f : α → List AV} {i : Nat} (h : i < l.length) : (l.map f)[i]? = some (f (l.getD i default)) := by
  simp [List.getD_eq_getElem?_getD, h]
theorem drop_cons {α : Type} [Inhabited α] {l : List α} {i : Nat} (h : i < l.length) : l.drop i = l.getD i default :: l.drop (i + 1) := by
  rw [List.drop_eq_getElem_cons h]
  congr 1
  simp [List.getD_eq_getElem?_getD, h]
theorem wrapI {x : Int} (h1 : -9223372036854775808 ≤ x) (h2 : x ≤ 9223372036854775807) : IntKind.i64.wrap x = x := by
  rw [IntKind.wrap_i64]; omega
theorem bne_t {a b : Int} (h : a ≠ b) : (a != b) = true := by simpa using h
theorem bne_f {a b : Int} (h : a = b) : (a != b) = false := by simpa using h
theorem beq_t {a b : Int} (h : a = b) : (a == b) = true := by simpa using h
theorem beq_f {a b : Int} (h : a ≠ b) : (a == b) = false := by simpa using h
theorem getRow_set {l : Rows} {i : Nat} {row : List AV} {k : List AV → R} (h : i < l.length) : getRow (l.set i row) i k = k row := getRow_eq (by simp [h])
theorem setRC_at {l : Rows} {i j : Nat} {v : AV} {k : Rows → R} {row : List AV} (h : l[i]? = some row) (hj : j < row.length) : setRC l i j v k = k (l.set i (row.set j v)) := setRC_eq h hj
theorem setRC_set {l : Rows} {i j : Nat} {v : AV} {k : Rows → R} {row : List AV} (h : i < l.length) (hj : j < row.length) : setRC (l.set i row) i j v k = k (l.set i (row.set j v)) := by
  rw [setRC_eq (row := row) (by simp [h]) hj, List.set_set]
/-- a list that is being filled -/
def fillR {α : Type} (f : α → List AV) (z : List AV) (xs : List α) (k : Nat) : Rows := (xs.take k).map f ++ List.replicate (xs.length - k) z
theorem fillR_zero {α : Type} {f : α → List AV} {z : List AV} {xs : List α} {n : Int} (h : n = (xs.length : Int)) : List.replicate n.toNat z = fillR f z xs 0 := by
  subst h; simp [fillR]
theorem fillR_len {α : Type} {f : α → List AV} {z : List AV} {xs : List α} {k : Nat} (h : k ≤ xs.length) : (fillR f z xs k).length = xs.length := by
  simp [fillR]; omega
theorem fillR_get {α : Type} {f : α → List AV} {z : List AV} {xs : List α} {k : Nat} (h : k < xs.length) : (fillR f z xs k)[k]? = some z := by
  unfold fillR
  have hl : ((xs.take k).map f).length = k := by rw [List.length_map, List.length_take]; omega
  rw [List.getElem?_append_right (by rw [hl]; exact Nat.le_refl _), hl, Nat.sub_self, List.getElem?_replicate, if_pos (by omega)]
theorem fillR_set {α : Type} [Inhabited α] {f : α → List AV} {z : List AV} {xs : List α} {k : Nat} (h : k < xs.length) : (fillR f z xs k).set k (f (xs.getD k default)) = fillR f z xs (k + 1) := by
  unfold fillR
  have hl : ((xs.take k).map f).length = k := by rw [List.length_map, List.length_take]; omega
  rw [List.set_append_right _ _ (by rw [hl]; exact Nat.le_refl _), hl, Nat.sub_self]
  obtain ⟨m, hm⟩ : ∃ m, xs.length - k = m + 1 := ⟨xs.length - k - 1, by omega⟩
  have hm' : xs.length - (k + 1) = m := by omega
  have hv : xs.getD k default = xs[k] := by simp [List.getD_eq_getElem?_getD, h]
  rw [hm, hm', List.replicate_succ, List.set_cons_zero, List.take_succ_eq_append_getElem h, hv, List.map_append]
  simp only [List.map_cons, List.map_nil, List.append_assoc, List.singleton_append]
theorem fillR_end {α : Type} {f : α → List AV} {z : List AV} {xs : List α} : fillR f z xs xs.length = xs.map f := by simp [fillR]
end Go.Abs

/- Loops with any state. -/
namespace Go.Abs
theorem evLoop_gen {n : Nat} {live : List Nat} {body : St → (Exit → St → R) → R} {c : Exit → St → R} {fuel : Nat} {e0 : List AV} {s : List (List AV)} {hp : Heap} {σ : Type} (E : List AV → σ → List AV) (H : Heap → σ → Heap) (F : σ → R) (I : σ → Prop) (μ : σ → Nat) (x0 : σ)
    (h0 : (⟨E e0 x0, s, H hp x0⟩ : St) = ⟨e0, s, hp⟩) (i0 : I x0) (hN : μ x0 < fuel)
    (step : ∀ x f, I x → (∀ y e' h', I y → μ y < μ x → e' = E e0 y → h' = H hp y → evLoop n live body f ⟨e', s, h'⟩ c = F y) → (body ⟨E e0 x, s, H hp x⟩ fun x st => match x with
      | .normal => clean n live st fun st => evLoop n live body f st c
      | x => c x st) = F x) : evLoop n live body fuel ⟨e0, s, hp⟩ c = F x0 := by
  have main : ∀ d x f, I x → μ x = d → d < f → evLoop n live body f ⟨E e0 x, s, H hp x⟩ c = F x := by
    intro d
    induction d using Nat.strongRecOn with
    | ind d ih =>
      intro x f hI hd hf
      obtain ⟨f, rfl⟩ : ∃ m, f = m + 1 := ⟨f - 1, by omega⟩
      rw [evLoop_succ]
      exact step x f hI (fun y e' h' hy hlt he hh => by rw [he, hh]; exact ih (μ y) (by omega) y f hy rfl (by omega))
  rw [← h0]
  exact main (μ x0) x0 fuel i0 rfl hN
/-- a list that is counted -/
theorem lt_map {α : Type} {xs : List α} {f : α → List AV} {k : Nat} (h : k < xs.length) : decide ((k : Int) < ((xs.map f).length : Int)) = true := by simpa using h
theorem nlt_map {α : Type} {xs : List α} {f : α → List AV} {k : Nat} (h : xs.length ≤ k) : decide ((k : Int) < ((xs.map f).length : Int)) = false := by simpa using h
theorem nonneg (k : Nat) : decide ((0 : Int) ≤ (k : Int)) = true := by simp
theorem wrapS {k : Nat} (h : k < 9223372036854775807) : IntKind.i64.wrap ((k : Int) + 1) = ((k + 1 : Nat) : Int) := by rw [wrapI] <;> omega
theorem getD_mem {α : Type} [Inhabited α] {xs : List α} {k : Nat} (h : k < xs.length) : xs.getD k default ∈ xs := by
  have : xs.getD k default = xs[k] := by simp [List.getD_eq_getElem?_getD, h]
  rw [this]; exact List.getElem_mem h
theorem bndS_step {x r : R} {k : St → R} {st : St} (h : x = some (encI st)) (h2 : k st = r) : bndS x k = r := (bndS_enc h).trans h2
end Go.Abs

/- A list that is being written over, from another of its length. -/
namespace Go.Abs
theorem mix_ex {α : Type} (ys xs : List α) (k : Nat) : ∃ l, l = ys.take k ++ xs.drop k := ⟨_, rfl⟩
@[irreducible] noncomputable def mix {α : Type} (ys xs : List α) (k : Nat) : List α := Classical.choose (mix_ex ys xs k)
theorem mix_def {α : Type} (ys xs : List α) (k : Nat) : mix ys xs k = ys.take k ++ xs.drop k := by unfold mix; exact Classical.choose_spec (mix_ex ys xs k)
theorem mix_zero {α : Type} (ys xs : List α) : mix ys xs 0 = xs := by simp [mix_def]
theorem mix_len {α : Type} {ys xs : List α} {k : Nat} (h : ys.length = xs.length) (hk : k ≤ xs.length) : (mix ys xs k).length = xs.length := by
  simp [mix_def]; omega
theorem mix_get {α : Type} [Inhabited α] {f : α → List AV} {ys xs : List α} {k : Nat} (h : ys.length = xs.length) (hk : k < xs.length) : ((mix ys xs k).map f)[k]? = some (f (xs.getD k default)) := by
  have hl : (ys.take k).length = k := by rw [List.length_take]; omega
  have e : (mix ys xs k)[k]? = xs[k]? := by
    rw [mix_def]
    rw [List.getElem?_append_right (by rw [hl]; exact Nat.le_refl _), hl, Nat.sub_self, List.getElem?_drop, Nat.add_zero]
  rw [List.getElem?_map, e]
  simp [List.getD_eq_getElem?_getD, hk]
theorem mix_set {α : Type} {f : α → List AV} {ys xs : List α} {k : Nat} {y : α} (h : ys.length = xs.length) (hk : k < xs.length) (hy : ys[k]? = some y) : ((mix ys xs k).map f).set k (f y) = (mix ys xs (k + 1)).map f := by
  have hl : (ys.take k).length = k := by rw [List.length_take]; omega
  have hky : k < ys.length := by omega
  have e : ys[k] = y := by rw [List.getElem?_eq_getElem hky] at hy; exact Option.some.inj hy
  rw [mix_def, mix_def]
  rw [List.map_append, List.map_append, List.set_append_right _ _ (by rw [List.length_map, hl]; exact Nat.le_refl _), List.length_map, hl, Nat.sub_self, List.drop_eq_getElem_cons hk, List.map_cons, List.set_cons_zero, List.take_succ_eq_append_getElem hky, e, List.map_append]
  simp only [List.map_cons, List.map_nil, List.append_assoc, List.singleton_append]
theorem mix_end {α : Type} {ys xs : List α} {k : Nat} (h : ys.length = xs.length) (hk : k = xs.length) : mix ys xs k = ys := by
  subst hk
  simp [mix_def, ← h]
theorem set_self {l : Rows} {k : Nat} {row : List AV} (h : l[k]? = some row) : l.set k row = l := by
  have hk : k < l.length := (List.getElem?_eq_some_iff.1 h).1
  have e : l[k] = row := by rw [List.getElem?_eq_getElem hk] at h; exact Option.some.inj h
  rw [← e, List.set_getElem_self]
theorem getRow_eqT {l : Rows} {i : Nat} {row : List AV} {k : List AV → R} (h : l[i]? = some row) : getRow l ((i : Int).toNat) k = k row := getRow_eq h
theorem getRow_setT {l : Rows} {i : Nat} {row : List AV} {k : List AV → R} (h : i < l.length) : getRow (l.set i row) ((i : Int).toNat) k = k row := getRow_set h
theorem setRC_atT {l : Rows} {i j : Nat} {v : AV} {k : Rows → R} {row : List AV} (h : l[i]? = some row) (hj : j < row.length) : setRC l ((i : Int).toNat) j v k = k (l.set i (row.set j v)) := setRC_at h hj
theorem setRC_setT {l : Rows} {i j : Nat} {v : AV} {k : Rows → R} {row : List AV} (h : i < l.length) (hj : j < row.length) : setRC (l.set i row) ((i : Int).toNat) j v k = k (l.set i (row.set j v)) := setRC_set h hj
theorem lt_set {l : List (List AV)} {i j : Nat} {x : List AV} (h : i < l.length) : decide ((i : Int) < ((l.set j x).length : Int)) = true := by
  rw [List.length_set]; simpa using h
theorem navR_nil (sz : Nat) (rows : Rows) (k : Nat → Rows → R) : navR [] sz rows k = k sz rows := by rw [navR_eq0]; rfl
theorem navR_at {rows : Rows} {i j : Nat} {row : List AV} {p : Path} {sz sz' : Nat} {rows' : Rows} {k : Nat → Rows → R} (h1 : rows[i]? = some row) (h2 : row[j]? = some (.lst sz' rows')) : navR ((i, j) :: p) sz rows k = navR p sz' rows' k := by
  rw [navR_eq0, navR0, getRow_eq h1]
  have : ∀ (l : List AV) (j : Nat) (v : AV) (k : AV → R), l[j]? = some v → getE l j k = k v := by
    intro l j v k h
    induction l generalizing j with
    | nil => simp at h
    | cons a l ih => cases j with
      | zero => simp at h; subst h; rfl
      | succ j => exact ih j (by simpa using h)
  rw [this _ _ _ _ h2]
theorem modR_nil (rows : Rows) (f : Rows → (Rows → R) → R) (k : Rows → R) : modR [] rows f k = f rows k := by rw [modR_eq0]; rfl
theorem modR_at {rows : Rows} {i j : Nat} {row : List AV} {p : Path} {sz' : Nat} {rows' : Rows} {f : Rows → (Rows → R) → R} {k : Rows → R} (h1 : rows[i]? = some row) (h2 : row[j]? = some (.lst sz' rows')) : modR ((i, j) :: p) rows f k = modR p rows' f fun rows'' => setRC rows i j (.lst sz' rows'') k := by
  rw [modR_eq0, modR0, getRow_eq h1]
  have : ∀ (l : List AV) (j : Nat) (v : AV) (k : AV → R), l[j]? = some v → getE l j k = k v := by
    intro l j v k h
    induction l generalizing j with
    | nil => simp at h
    | cons a l ih => cases j with
      | zero => simp at h; subst h; rfl
      | succ j => exact ih j (by simpa using h)
  rw [this _ _ _ _ h2]
theorem navR_atT {rows : Rows} {i j : Nat} {row : List AV} {p : Path} {sz sz' : Nat} {rows' : Rows} {k : Nat → Rows → R} (h1 : rows[i]? = some row) (h2 : row[j]? = some (.lst sz' rows')) : navR (((i : Int).toNat, j) :: p) sz rows k = navR p sz' rows' k := navR_at h1 h2
theorem modR_atT {rows : Rows} {i j : Nat} {row : List AV} {p : Path} {sz' : Nat} {rows' : Rows} {f : Rows → (Rows → R) → R} {k : Rows → R} (h1 : rows[i]? = some row) (h2 : row[j]? = some (.lst sz' rows')) : modR (((i : Int).toNat, j) :: p) rows f k = modR p rows' f fun rows'' => setRC rows ((i : Int).toNat) j (.lst sz' rows'') k := modR_at h1 h2
theorem set_get {l : Rows} {i : Nat} {row : List AV} (h : i < l.length) : (l.set i row)[i]? = some row := by simp [h]
end Go.Abs

/- Results that are found on the way. -/
namespace Go.Abs
theorem synB {x : R} {b b' : Bool} (h : x = some ⟨.bool b, []⟩) (e : b = b') : x = some ⟨.bool b', []⟩ := by rw [h, e]
theorem synI {x : R} {k : IntKind} {b b' : Int} (h : x = some ⟨.int k b, []⟩) (e : b = b') : x = some ⟨.int k b', []⟩ := by rw [h, e]
theorem synS {x : R} {b b' : ByteArray} (h : x = some ⟨.str b, []⟩) (e : b = b') : x = some ⟨.str b', []⟩ := by rw [h, e]
theorem br_syn {c : Bool} {X Y : R} {a b : Bool} (h1 : c = true → X = some ⟨.bool a, []⟩) (h2 : c = false → Y = some ⟨.bool b, []⟩) : br c X Y = some ⟨.bool (bif c then a else b), []⟩ := by
  cases c
  · rw [br_false]; exact h2 rfl
  · rw [br_true]; exact h1 rfl
theorem br_synI {c : Bool} {X Y : R} {k : IntKind} {a b : Int} (h1 : c = true → X = some ⟨.int k a, []⟩) (h2 : c = false → Y = some ⟨.int k b, []⟩) : br c X Y = some ⟨.int k (bif c then a else b), []⟩ := by
  cases c
  · rw [br_false]; exact h2 rfl
  · rw [br_true]; exact h1 rfl
theorem br_nt {b : Bool} {x y : R} (h : b = true) : br (!b) x y = y := by rw [h]; exact br_false x y
theorem br_nf {b : Bool} {x y : R} (h : b = false) : br (!b) x y = x := by rw [h]; exact br_true x y
theorem br_chk {c : Bool} {X : R} (h : c = true) : br c X none = X := by rw [h, br_true]
end Go.Abs

