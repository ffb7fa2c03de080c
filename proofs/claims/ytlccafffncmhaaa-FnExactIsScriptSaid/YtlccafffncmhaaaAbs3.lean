/- An abstract machine for the model's own code, and the proof that what it answers the program answers (part 3): no condition. -/
import Derived.Test.YtlccafffncmhaaaAbs2
import Derived.Deep.Slices
import Derived.Carry
import Derived.Below
import Derived.ChangeOld
import Derived.SizedLaws
import Derived.RowKit
set_option linter.unusedVariables false
set_option linter.unusedSimpArgs false
/- Soundness 54: the arguments of a statement are trees. -/
namespace Go.Abs
open Go.Deep

def look : List (TypeId × TInfo) → TypeId → Option TInfo
  | [], _ => none
  | (t', x) :: l, t => if t' = t then some x else look l t
theorem look_mem {l : List (TypeId × TInfo)} {t : TypeId} {x : TInfo} (h : look l t = some x) : (t, x) ∈ l := by
  induction l with
  | nil => cases h
  | cons a l ih =>
    obtain ⟨t', y⟩ := a
    simp only [look] at h
    split at h
    · rename_i e; subst e; cases h; simp
    · simp [ih h]
def szOf (l : List (TypeId × TInfo)) (t : TypeId) : Nat := match look l t with
  | some x => x.size
  | none => 0
def TyF (T : TypeId → List AV → Prop) : List (Nat × TypeId) → List AV → Prop
  | [], avs => avs = []
  | p :: fs, avs => ∃ a b, avs = a ++ b ∧ T p.2 a ∧ TyF T fs b
/-- cells that a value of a type may have -/
def Ty (l : List (TypeId × TInfo)) : Nat → TypeId → List AV → Prop
  | 0, _, _ => False
  | n + 1, t, avs => match look l t with
    | none => False
    | some x => match x.shape with
      | .bool => ∃ b, avs = [.bool b]
      | .int k => ∃ i, avs = [.int k i] ∧ k.min ≤ i ∧ i ≤ k.max
      | .str => ∃ s, avs = [.str s] ∧ s.size ≤ maxLen
      | .slice e => ∃ rows : Rows, avs = [.lst (szOf l e) rows] ∧ rows.length ≤ maxLen ∧ ∀ row ∈ rows, Ty l n e row
      | .struct fs => TyF (Ty l n) fs avs
      | _ => False
def contig (l : List (TypeId × TInfo)) : Nat → List (Nat × TypeId) → Nat → Bool
  | off, [], total => off == total
  | off, (o, t) :: fs, total => o == off && contig l (off + szOf l t) fs total
def good (l : List (TypeId × TInfo)) : Nat → TypeId → Bool
  | 0, _ => false
  | n + 1, t => match look l t with
    | none => false
    | some x => match x.shape with
      | .bool | .int _ | .str => true
      | .slice e => good l n e
      | .struct fs => contig l 0 fs x.size && fs.all fun p => good l n p.2
      | _ => false
theorem mapM_some {α β : Type} {f : α → Option β} : ∀ {l : List α} {r : List β}, l.mapM f = some r → r.length = l.length ∧ ∀ (i : Nat) (x : α), l[i]? = some x → f x = r[i]?
  | [], r, h => by
    simp at h
    subst h
    exact ⟨rfl, fun i x hx => by simp at hx⟩
  | a :: l, r, h => by
    rw [List.mapM_cons] at h
    cases hf : f a with
    | none => rw [hf] at h; cases h
    | some b =>
      rw [hf] at h
      cases hm : l.mapM f with
      | none => rw [hm] at h; cases h
      | some r' =>
        rw [hm] at h
        cases h
        obtain ⟨h1, h2⟩ := mapM_some hm
        refine ⟨by simp [h1], fun i x hx => ?_⟩
        cases i with
        | zero => simp at hx; subst hx; simpa using hf
        | succ i => simpa using h2 i x (by simpa using hx)
theorem cells_some {w : World} {base : Nat} {ad : Addr} {n : Nat} {cs : List Value} (h : w.cells? base ad n = some cs) : cs.length = n ∧ ∀ i v, cs[i]? = some v → w.cell? (ad.add i) = some v := by
  unfold World.cells? at h
  split at h
  · obtain ⟨h1, h2⟩ := mapM_some h
    simp only [List.length_range] at h1
    refine ⟨h1, fun i v hv => ?_⟩
    have hi : i < n := by rw [← h1]; exact (List.getElem?_eq_some_iff.1 hv).1
    rw [h2 i i (by simp [hi]), hv]
  · cases h
theorem Leaves.split {w : World} {K : CS} : ∀ {vs : List Value} {l : List AV} (n : Nat), Leaves w K (vs.take n) l → ∀ {m : List AV}, Leaves w K (vs.drop n) m → Leaves w K vs (l ++ m)
  | [], _, n, h1, m, h2 => by
    simp only [List.take_nil] at h1
    simp only [List.drop_nil] at h2
    cases h1
    exact h2
  | v :: vs, l, 0, h1, m, h2 => by
    simp only [List.take_zero] at h1
    cases h1
    exact h2
  | v :: vs, l, n + 1, h1, m, h2 => by
    simp only [List.take_succ_cons] at h1
    simp only [List.drop_succ_cons] at h2
    cases h1 with
    | cons a b => exact .cons a (Leaves.split n b h2)
theorem Leaves.of {w : World} {K : CS} : ∀ {vs : List Value} {l : List AV}, vs.length = l.length → (∀ (j : Nat) (v : Value) (a : AV), vs[j]? = some v → l[j]? = some a → Leaf w K v a) → Leaves w K vs l
  | [], [], _, _ => .nil
  | [], _ :: _, h, _ => by simp at h
  | _ :: _, [], h, _ => by simp at h
  | v :: vs, a :: l, h, hj => .cons (hj 0 v a rfl rfl) (Leaves.of (by simpa using h) fun j v' a' h1 h2 => hj (j + 1) v' a' (by simpa using h1) (by simpa using h2))

section
variable {H : Type} {enc : TypeId × Value → H} {P : Program} {w : World} {base : Nat} {held : Bool} {l : List (TypeId × TInfo)}
theorem cellsOf_of (hT : TysOK P l) {t : TypeId} {x : TInfo} (h : look l t = some x) : P.cellsOf t = x.size := by
  obtain ⟨_, ⟨i, z, h1, h2, _⟩, _⟩ := hT _ (look_mem h)
  simp only at h1 h2
  simp [Program.cellsOf, h1, h2]
theorem trod_ty (hT : TysOK P l) : ∀ (n : Nat) (t : TypeId) (x : TInfo) (fuel : Nat) (cs : List Value) (d : DataW H × List MemPlace), good l n t = true → look l t = some x → DataW.trod enc P w base (fun _ => true) held fuel t cs = some d →
    ∃ avs, Ty l n t avs ∧ Leaves w Any cs avs ∧ avs.length = x.size := by
  intro n
  induction n with
  | zero => intro t x fuel cs d hg; simp [good] at hg
  | succ n ih =>
    intro t x fuel cs d hg hx h
    have hok := hT _ (look_mem hx)
    obtain ⟨⟨ds, hu, hsh⟩, _, _, hone, _, hpos⟩ := hok
    simp only at hu hsh hone hpos
    cases fuel with
    | zero => simp [DataW.trod] at h
    | succ fuel =>
    simp only [good, hx] at hg
    simp only [Ty, hx]
    have one : (∀ fs, x.shape ≠ .struct fs) → x.size = 1 := hone
    cases hs : x.shape with
    | bool =>
      rw [hs] at hsh
      simp only [ShOK] at hsh
      subst hsh
      have : ∃ b, cs = [.bool b] := by
        cases cs with
        | nil => simp [DataW.trod, hu] at h
        | cons v tl => cases tl with
          | nil => cases v <;> first | exact ⟨_, rfl⟩ | (simp [DataW.trod, hu] at h; done)
          | cons => simp [DataW.trod, hu] at h
      obtain ⟨b, rfl⟩ := this
      exact ⟨_, ⟨_, rfl⟩, .cons (TR.bool _) .nil, (by rw [one (by simp [hs])]; rfl)⟩
    | int k =>
      rw [hs] at hsh
      simp only [ShOK] at hsh
      subst hsh
      have : ∃ k' i, cs = [.int k' i] := by
        cases cs with
        | nil => simp [DataW.trod, hu] at h
        | cons v tl => cases tl with
          | nil => cases v <;> first | exact ⟨_, _, rfl⟩ | (simp [DataW.trod, hu] at h; done)
          | cons => simp [DataW.trod, hu] at h
      obtain ⟨k', i, rfl⟩ := this
      simp only [DataW.trod, hu] at h
      split at h
      · rename_i hk
        obtain ⟨rfl, hwf⟩ := hk
        simp only [Lit.wf, Bool.and_eq_true, decide_eq_true_eq] at hwf
        exact ⟨_, ⟨_, rfl, hwf.1, hwf.2⟩, .cons (TR.int _ _) .nil, (by rw [one (by simp [hs])]; rfl)⟩
      · cases h
    | str =>
      rw [hs] at hsh
      simp only [ShOK] at hsh
      subst hsh
      have : ∃ s, cs = [.string s] := by
        cases cs with
        | nil => simp [DataW.trod, hu] at h
        | cons v tl => cases tl with
          | nil => cases v <;> first | exact ⟨_, rfl⟩ | (simp [DataW.trod, hu] at h; done)
          | cons => simp [DataW.trod, hu] at h
      obtain ⟨s, rfl⟩ := this
      simp only [DataW.trod, hu] at h
      split at h
      · rename_i hk
        exact ⟨_, ⟨_, rfl, hk⟩, .cons (TR.str _) .nil, (by rw [one (by simp [hs])]; rfl)⟩
      · cases h
    | slice e =>
      rw [hs] at hsh
      simp only [ShOK] at hsh
      subst hsh
      simp only [hs] at hg
      have hsz := one (by simp [hs])
      cases hy : look l e with
      | none => cases n <;> simp [good, hy] at hg
      | some y =>
        have hcell := cellsOf_of hT hy
        have hypos := (hT _ (look_mem hy)).pos
        simp only at hypos
        have hszo : szOf l e = y.size := by simp [szOf, hy]
        rcases open_slice hu h with ⟨rfl, _⟩ | ⟨ad, len, cap, m, fu, D, Pl, rfl, hb, hlc, hcm, hm, _, hel⟩
        · exact ⟨[.lst (szOf l e) []], ⟨[], rfl, Nat.zero_le _, fun row hr => by simp at hr⟩, .cons TR.nil .nil, by simp [hsz]⟩
        · simp only [if_true] at hm
          subst hm
          have each : ∀ i, i < m → ∃ row, Ty l n e row ∧ row.length = y.size ∧ (∀ j a, row[j]? = some a → ∃ v, w.cell? (ad.add (i * y.size + j)) = some v ∧ Leaf w Any v a) := by
            intro i hi
            obtain ⟨cs', hc1, hc2⟩ := hel i hi
            rw [hcell] at hc1
            obtain ⟨hc3, hc4⟩ := cells_some hc1
            obtain ⟨row, h1, h2, h3⟩ := ih e y fu cs' _ hg hy hc2
            refine ⟨row, h1, h3, fun j a ha => ?_⟩
            obtain ⟨v, hv, hlf⟩ := h2.get ha
            have := hc4 j v hv
            rw [add_add] at this
            exact ⟨v, this, hlf⟩
          obtain ⟨f, hf⟩ := choose_lt (n := m) each
          have hrows : ((List.range len).map f).length = len := by simp
          refine ⟨[.lst (szOf l e) ((List.range len).map f)], ⟨_, rfl, by rw [hrows]; omega, fun row hr => ?_⟩, .cons ?_ .nil, by simp [hsz]⟩
          · obtain ⟨i, hi, rfl⟩ := List.mem_map.1 hr
            exact (hf i (by have := List.mem_range.1 hi; omega)).1
          · rw [hszo]
            by_cases hm0 : m = 0
            · subst hm0
              obtain rfl : len = 0 := by omega
              exact TR.nil
            · obtain ⟨_, hl0, hc0⟩ := hf 0 (by omega)
              have h00 : (f 0)[0]? = some (f 0)[0] := List.getElem?_eq_getElem (by omega)
              obtain ⟨v0, hv0, _⟩ := hc0 0 _ h00
              have hspot : ad.spot = none := by
                have : ad.add (0 * y.size + 0) = ad := by simp [Addr.add]
                rw [this] at hv0
                simp only [World.cell?] at hv0
                split at hv0
                · split at hv0
                  · cases hv0
                  · rename_i hsp; simpa using hsp
                · cases hv0
              obtain ⟨b, o, sp⟩ := ad
              simp only at hspot
              subst hspot
              simp only [Addr.add_eq] at hf hv0
              obtain ⟨arr, te, fz, hbk, _⟩ := cell_heap hv0
              obtain ⟨_, hl1, hc1⟩ := hf (m - 1) (by omega)
              have h11 : (f (m - 1))[y.size - 1]? = some (f (m - 1))[y.size - 1] := List.getElem?_eq_getElem (by omega)
              obtain ⟨v1, hv1, _⟩ := hc1 _ _ h11
              rw [cell_of hbk] at hv1
              have hlt := (Array.getElem?_eq_some_iff.1 hv1).1
              have hbound : o + m * y.size ≤ arr.size := by
                have : (m - 1) * y.size + y.size = m * y.size := by rw [← Nat.succ_mul]; congr 1; omega
                omega
              have hmain := TR.lst (w := w) (own := false) (K := Any) (S := fun k => k < w.heap.size) (b := b) (o := o) (c := m) (cs := arr) (e := te) (fz := fz) (sz := y.size) (rows := (List.range len).map f) (fun _ _ k => k < w.heap.size)
                hbk hbound (by rw [hrows]; exact hlc) (fun row hr => by
                  obtain ⟨i, hi, rfl⟩ := List.mem_map.1 hr
                  exact (hf i (by have := List.mem_range.1 hi; omega)).2.1) ⟨Nat.mul_pos (by omega) hypos, fun _ _ _ => trivial⟩ (get_lt hbk) (fun _ _ _ h => h) (fun h => by cases h) (fun i j row a hr ha => by
                  rw [List.getElem?_map, Option.map_eq_some_iff] at hr
                  obtain ⟨i', hi', rfl⟩ := hr
                  have hil : i < len := by
                    have := (List.getElem?_eq_some_iff.1 hi').1
                    simpa using this
                  have : i' = i := by
                    rw [List.getElem?_range hil] at hi'
                    simpa using hi'.symm
                  subst this
                  obtain ⟨v, hv, hlf⟩ := (hf i' (by omega)).2.2 j a ha
                  rw [cell_of hbk, ← Nat.add_assoc] at hv
                  rw [getD_of hv]
                  exact hlf)
              rw [hrows] at hmain
              exact hmain
    | struct fs =>
      rw [hs] at hsh
      obtain ⟨fa, rfl, hfa⟩ := hsh
      simp only [hs, Bool.and_eq_true] at hg
      have h' : cs.length = P.cellsOf t ∧ ∃ xs, (fa.toList.mapM fun f => DataW.trod enc P w base (fun _ => true) held fuel f.type ((cs.drop f.offset).take (P.cellsOf f.type))) = some xs := by
        have e1 : DataW.trod enc P w base (fun _ => true) held (fuel + 1) t cs = (if cs.length = P.cellsOf t then (fa.toList.mapM fun f => DataW.trod enc P w base (fun _ => true) held fuel f.type ((cs.drop f.offset).take (P.cellsOf f.type))).map fun xs => (.agg (xs.map (·.1)), xs.flatMap (·.2)) else none) := by
          rw [DataW.trod]
          simp only [hu]
        rw [e1] at h
        split at h
        · rename_i hl
          refine ⟨hl, ?_⟩
          cases hm : (fa.toList.mapM fun f => DataW.trod enc P w base (fun _ => true) held fuel f.type ((cs.drop f.offset).take (P.cellsOf f.type))) with
          | none => rw [hm] at h; cases h
          | some xs => exact ⟨xs, rfl⟩
        · cases h
      obtain ⟨hl, xs, hxs⟩ := h'
      rw [cellsOf_of hT hx] at hl
      have each : ∀ p ∈ fs, ∃ d', DataW.trod enc P w base (fun _ => true) held fuel p.2 ((cs.drop p.1).take (P.cellsOf p.2)) = some d' := by
        intro p hp
        rw [← hfa] at hp
        obtain ⟨f, hf, rfl⟩ := List.mem_map.1 hp
        obtain ⟨i, hi⟩ := List.mem_iff_getElem?.1 hf
        obtain ⟨k1, k2⟩ := mapM_some hxs
        have hk := k2 i f hi
        have hil : i < xs.length := by rw [k1]; exact (List.getElem?_eq_some_iff.1 hi).1
        rw [List.getElem?_eq_getElem hil] at hk
        exact ⟨_, hk⟩
      have go : ∀ (fs' : List (Nat × TypeId)) (off : Nat), (∀ p ∈ fs', p ∈ fs) → contig l off fs' x.size = true → fs'.all (fun p => good l n p.2) = true → ∃ avs, TyF (Ty l n) fs' avs ∧ Leaves w Any (cs.drop off) avs := by
        intro fs'
        induction fs' with
        | nil =>
          intro off _ hc _
          simp only [contig, beq_iff_eq] at hc
          refine ⟨[], rfl, ?_⟩
          rw [List.drop_eq_nil_of_le (by omega)]
          exact .nil
        | cons p fs' ihf =>
          intro off hsub hc hgd
          obtain ⟨o, t'⟩ := p
          simp only [contig, Bool.and_eq_true, beq_iff_eq] at hc
          obtain ⟨rfl, hc⟩ := hc
          simp only [List.all_cons, Bool.and_eq_true] at hgd
          obtain ⟨b, hb1, hb2⟩ := ihf (o + szOf l t') (fun p hp => hsub p (by simp [hp])) hc hgd.2
          obtain ⟨d', hd'⟩ := each (o, t') (hsub _ (by simp))
          simp only at hd'
          cases hy : look l t' with
          | none =>
            have := hgd.1
            cases n <;> simp [good, hy] at this
          | some y =>
            obtain ⟨a, ha1, ha2, ha3⟩ := ih t' y fuel _ d' hgd.1 hy hd'
            have hszo : szOf l t' = y.size := by simp [szOf, hy]
            rw [cellsOf_of hT hy] at ha2
            rw [hszo, ← List.drop_drop] at hb2
            exact ⟨a ++ b, ⟨a, b, rfl, ha1, hb1⟩, Leaves.split y.size ha2 hb2⟩
      obtain ⟨avs, h1, h2⟩ := go fs 0 (fun _ h => h) hg.1 hg.2
      rw [List.drop_zero] at h2
      exact ⟨avs, h1, h2, by rw [← h2.length, hl]⟩
    | ptr e => simp [hs] at hg
    | func => simp [hs] at hg
    | other => simp [hs] at hg
end
end Go.Abs

/- Soundness 55: a statement that answers true. -/
namespace Go.Abs
open Go.ChangeShapes Go.WideShapes Go.RowKit

def un1 (avs : List AV) : AV := match avs with
  | [a] => a
  | _ => .undef
def argA (x : TInfo) (avs : List AV) : AV := match x.shape with
  | .struct _ => .agg avs
  | _ => un1 avs
inductive TyArgs (l : List (TypeId × TInfo)) : List TypeId → List AV → Prop
  | nil : TyArgs l [] []
  | cons {t : TypeId} {x : TInfo} {avs : List AV} {ts : List TypeId} {as : List AV} (hx : look l t = some x) (h1 : Ty l 9 t avs) (h2 : TyArgs l ts as) : TyArgs l (t :: ts) (argA x avs :: as)
theorem Fr.below {w w' : World} (F : Fr w Quiet w') : Go.RowKit.Below w.heap.size w w' := ⟨F.os, F.tape, F.output, F.size, fun k hk => F.block k hk (fun _ h => h)⟩
section
variable {H : Type} {enc : TypeId × Value → H} {P : Program} {cfg : Cfg} {W : World} {base : Nat}

theorem arg_of (hT : TysOK P cfg.ty) {t : TypeId} {v : Value} {d : DataW H} {p : List MemPlace} (hg : good cfg.ty 9 t = true) (h : DataW.Trod enc P W 0 (fun _ => true) true t v d p) (hv : Value.okWide P W .any base t v) :
    ∃ x avs, look cfg.ty t = some x ∧ Ty cfg.ty 9 t avs ∧ AR W Any v (argA x avs) := by
  obtain ⟨fuel, hf⟩ := h
  cases hx : look cfg.ty t with
  | none => simp [good, hx] at hg
  | some x =>
    obtain ⟨avs, h1, h2, h3⟩ := trod_ty hT 9 t x fuel _ _ hg hx hf
    refine ⟨x, avs, rfl, h1, ?_⟩
    obtain ⟨⟨ds, hu, hsh⟩, _, _, hone, _⟩ := hT _ (look_mem hx)
    simp only at hu hsh hone
    unfold argA
    have single : v.cells.toList = [v] → x.size = 1 → AR W Any v (un1 avs) := by
      intro hc hs
      rw [hc] at h2
      cases h2 with
      | cons k1 k2 => cases k2; exact .pv (.leaf k1)
    cases hs : x.shape with
    | struct fs =>
      rw [hs] at hsh
      obtain ⟨fa, rfl, _⟩ := hsh
      simp only [Value.okWide, hu] at hv
      obtain ⟨cs, rfl, _⟩ := hv
      simp only
      have := AR.agg h2
      simpa [Value.cells] using this
    | bool =>
      rw [hs] at hsh
      simp only [ShOK] at hsh
      subst hsh
      simp only [Value.okWide, hu, Cell.okWide, Cell.ok] at hv
      simp only
      refine single ?_ (hone (by simp [hs]))
      cases v <;> first | rfl | (cases hv; done)
    | int k =>
      rw [hs] at hsh
      simp only [ShOK] at hsh
      subst hsh
      simp only [Value.okWide, hu, Cell.okWide, Cell.ok] at hv
      simp only
      refine single ?_ (hone (by simp [hs]))
      cases v <;> first | rfl | (cases hv; done)
    | str =>
      rw [hs] at hsh
      simp only [ShOK] at hsh
      subst hsh
      simp only [Value.okWide, hu, Cell.okWide, Cell.ok] at hv
      simp only
      refine single ?_ (hone (by simp [hs]))
      cases v <;> first | rfl | (cases hv; done)
    | slice e =>
      rw [hs] at hsh
      simp only [ShOK] at hsh
      subst hsh
      simp only [Value.okWide, hu, Cell.okWide, Cell.ok] at hv
      simp only
      refine single ?_ (hone (by simp [hs]))
      cases v <;> first | rfl | (cases hv; done)
    | ptr e => simp [good, hx, hs] at hg
    | func => simp [good, hx, hs] at hg
    | other => simp [good, hx, hs] at hg
theorem args_of (hT : TysOK P cfg.ty) : ∀ {ts : List TypeId} {vs : List Value} {ds : List (DataW H)} {ps : List MemPlace}, (∀ t ∈ ts, good cfg.ty 9 t = true) → DataW.TrodAll enc P W 0 (fun _ => true) true ts vs ds ps →
    (∀ (j : Nat) t v, ts[j]? = some t → vs[j]? = some v → Value.okWide P W .any base t v) → ∃ as, TyArgs cfg.ty ts as ∧ ARs W Any vs as
  | [], [], [], _, _, _, _ => ⟨[], .nil, .nil⟩
  | t :: ts, v :: vs, d :: ds, _, hg, ⟨p, q, h1, h2, _⟩, hv => by
    obtain ⟨x, avs, e1, e2, e3⟩ := arg_of hT (hg t (by simp)) h1 (hv 0 t v rfl rfl)
    obtain ⟨as, e4, e5⟩ := args_of hT (fun t ht => hg t (by simp [ht])) h2 (fun j t v a b => hv (j + 1) t v (by simpa using a) (by simpa using b))
    exact ⟨_, .cons e1 e2 e4, .cons e3 e5⟩
theorem trods_len {w : World} {b : Nat} {sp : Nat → Bool} {hd : Bool} : ∀ {ts : List TypeId} {vs : List Value} {ds : List (DataW H)} {ps : List MemPlace}, DataW.TrodAll enc P w b sp hd ts vs ds ps → ds.length = ts.length
  | [], [], [], _, _ => rfl
  | _ :: _, _ :: _, _ :: _, _, ⟨_, _, _, h2, _⟩ => by simp [trods_len h2]
theorem trods_stay (hl : laidOutB P = true) {W' : World} (hb : Go.RowKit.Below W.heap.size W W') : ∀ {ts : List TypeId} {vs : List Value} {ds : List (DataW H)} {ps : List MemPlace}, (∀ t ∈ ts, P.readableRec t = true ∧ t < P.types.size) → DataW.TrodAll enc P W 0 (fun _ => true) true ts vs ds ps →
    (∀ x ∈ ps, x.block < W.heap.size) → DataW.TrodAll enc P W' 0 (fun b => decide (b < W.heap.size)) true ts vs ds ps
  | [], [], [], _, _, h, _ => h
  | t :: ts, v :: vs, d :: ds, _, hr, ⟨p, q, h1, h2, e⟩, hlt => by
    subst e
    exact ⟨p, q, Go.RowKit.Below.trod hl (hr t (by simp)).1 (hr t (by simp)).2 h1 hb (fun x hx => hlt x (by simp [hx])), trods_stay hl hb (fun t ht => hr t (by simp [ht])) h2 (fun x hx => hlt x (by simp [hx])), rfl⟩

/-- The contract of a statement's function that hands back true, whatever it is given. -/
theorem law_contract (hc : CfgOK P envAny cfg) {s : ChangeSpec} {fn : Func} {fid : FuncId} {ts : List TypeId} {tb : TypeId} {apart fresh handsOn : Bool}
    (hpar : fn.params.toList = ts) (hres : fn.resultTypes = #[tb]) (htb : P.underlying tb = some .bool) (hvars : s.vars = [])
    (hfn : ∀ ds : List (DataW H), ds.length = ts.length → s.fn H ds = { results := [.lit (.bool true)], args := ds }) (hl : laidOutB P = true) (hr : ∀ t ∈ ts, P.readableRec t = true ∧ t < P.types.size) (hm : cfg.mode fid = 0)
    (hg : ∀ t ∈ ts, good cfg.ty 9 t = true) (pure : ∀ as, TyArgs cfg.ty ts as → ∃ n out, callP cfg n fid as = some ⟨.bool true, out⟩)
    {args : Array Value} {ds gs : List (DataW H)} {before : List MemPlace} (hval : ∀ (j : Nat) t v, fn.params[j]? = some t → args[j]? = some v → Value.okWide P W .any base t v)
    (hW : DataW.Whole enc P fn.params.toList s.vars apart W args.toList ds gs before) :
    Calls P fid args W fun e W' => ∃ v, e = .returned v ∧ s.post enc P fn apart fresh handsOn false W args v W' := by
  have hW' := hW
  have hlt0 : ∀ p ∈ before, p.block < W.heap.size := fun p hp => hW.lt p hp
  obtain ⟨p, q, hA, hV, rfl, hfz, hnd⟩ := hW
  rw [hvars] at hV
  obtain ⟨rfl, rfl⟩ := trodVars_none hV
  rw [hpar] at hA
  obtain ⟨as, e1, e2⟩ := args_of hc.ty hg hA (fun j t v a b => hval j t v (by rw [← Array.getElem?_toList, hpar]; exact a) (by rw [← Array.getElem?_toList]; exact b))
  obtain ⟨n, out, hn⟩ := pure as e1
  have hcall := callP_sound hc hm hn (w := W) trivial (Nat.zero_le _) e2
  rw [Array.toArray_toList] at hcall
  refine hcall.mono fun e W' ⟨v, he, F, T⟩ => ⟨v, he, ?_⟩
  obtain ⟨Ss, T, _⟩ := T
  have hvb : v = .bool true := by
    cases T with
    | one T => cases T with
      | one T => cases T; rfl
  subst hvb
  have hlen : ds.length = ts.length := trods_len hA
  have hsf := hfn ds hlen
  have hlt : ∀ x ∈ p, x.block < W.heap.size := fun x hx => hlt0 x (by simp [hx])
  refine ⟨ds, [], p ++ [], [], p, [], hW', ?_, ?_, ?_, F.below.frame _, fun h => (nomatch h)⟩
  · rw [List.append_nil, hsf, hres]
    exact trodAll_mk1 (shut_bool htb true)
  · rw [List.append_nil, hsf, hpar]
    exact trods_stay hl F.below hr hA hlt
  · rw [hvars, List.append_nil, hsf]
    rfl
end
end Go.Abs

/- The abstract machine, run: heads. -/
namespace Go.Abs
theorem br_pos {b : Bool} {x y : R} (h : b = true) : br b x y = x := by subst h; exact br_true _ _
theorem br_neg {b : Bool} {x y : R} (h : b = false) : br b x y = y := by subst h; exact br_false _ _
theorem bnd_call {cfg : Cfg} {n : Nat} {f : FuncId} {args : List AV} {v : Res} {k : Res → R} (h : callP cfg n f args = some v) : bnd ((lev cfg n).pure f args) k = k v := by
  rw [callP_def, h, bnd_some]
theorem both_eq {x y r : R} (hx : x = r) (hy : y = r) : both x y = r := both_of hx hy
theorem br_if {b : Bool} {x y r : R} (ht : b = true → x = r) (hf : b = false → y = r) : br b x y = r := br_cases ht hf
end Go.Abs

