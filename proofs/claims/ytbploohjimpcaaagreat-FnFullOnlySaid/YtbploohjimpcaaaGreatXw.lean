/- What the program's functions answer (Xw): no condition. -/
import Derived.Test.YtbploohjimpcaaaGreatXu
import Derived.Test.YtbploohjimpcaaaGreatGg
import Derived.Test.YtbploohjimpcaaaGreatIb
set_option linter.unusedVariables false
set_option linter.unusedSimpArgs false
namespace Go.Proofs.YtbploohjimpcaaaGreat.A
open Go Go.Abs
set_option maxRecDepth 100000
noncomputable section
structure FO (t:Th):Prop where
 a:t.pc=20∨t.pc=21→t.res.c=0∨t.res.c=1
 b:t.pc=30∨t.pc=31→t.free=[]
def FQ (t t':Th):Prop:=FO t'∧(t'.pc=0→t'.res.c=2→t.pc=30)
theorem FQ.no {t t':Th} (h:t'.pc≠0∧t'.pc≠20∧t'.pc≠21∧t'.pc≠30∧t'.pc≠31):FQ t t':=⟨⟨fun x=>by omega,fun x=>by omega⟩,fun x=>by omega⟩
theorem FQ.at {t t':Th} {a:Int} (h:t'.pc=a) (ha:a≠0∧a≠20∧a≠21∧a≠30∧a≠31):FQ t t':=.no (by rw [h];exact ha)
theorem FQ.ite {t a b:Th} {P:Prop} [Decidable P] (ha:FQ t a) (hb:FQ t b):FQ t (if P then a else b):=by split <;> assumption
theorem FQ.end {t t0:Th} {r:Rs} (h:r.c≠2):FQ t (endT t0 r):=⟨⟨fun x=>(by rcases x with x | x <;> cases x),fun x=>(by rcases x with x | x <;> cases x)⟩,fun _ x=>absurd x h⟩
theorem FQ.go {t t0:Th}:FQ t (goOn t0):=by
 unfold goOn
 split
 ·exact .no (by dsimp only;omega)
 ·split
  ·exact ⟨⟨fun _=>.inr rfl,fun x=>(by rcases x with x | x <;> cases x)⟩,fun x=>(by cases x)⟩
  ·split
   ·exact .no (by dsimp only;omega)
   ·exact .no (by dsimp only;split <;> omega)
theorem FQ.fin {t t0:Th} {c:Cf}:FQ t (fin c t0):=by
 unfold A.fin
 split
 ·exact .at (a:=70) rfl (by decide)
 ·exact .end (by decide)
theorem swp_ths {s:Sta} {a o v:Int}:(swp s a o v).ths=s.ths:=by unfold swp;split;exact Xqq;rfl
theorem th_setT {s u:Sta} {p:Nat} {t:Th} (h:u.ths=s.ths) (hp:p<s.ths.length):(setT u p t).th p=t:=by
 rw [Xuh (by rw [h];exact hp),if_pos rfl]
theorem lnkF_ths {s:Sta} {t:Th}:(lnkF s t).ths=s.ths:=by
 rcases Xln (s:=s) (t:=t) with e | e <;> rw [e];exact Xlm
theorem fq_of {s:Sta} {p:Nat} {K:Sta} (h:Ye s p (s.th p)=K) (H:FQ (s.th p) (K.th p)):FQ (s.th p) ((stepV s p).th p):=by
 have e:(stepV s p).th p=(Ye s p (s.th p)).th p:=rfl
 rw [e,h];exact H
theorem fq_put {s:Sta} {p:Nat} {a v:Int} {t:Th} (hp:p<s.ths.length) (H:FQ (s.th p) t):FQ (s.th p) ((setT (put s a v) p t).th p):=by rw [th_setT Xqq hp];exact H
theorem fq_id {s:Sta} {p:Nat} {t:Th} (hp:p<s.ths.length) (H:FQ (s.th p) t):FQ (s.th p) ((setT s p t).th p):=by rw [th_setT rfl hp];exact H
theorem fq_u {s u:Sta} {p:Nat} {t:Th} (hu:u.ths=s.ths) (hp:p<s.ths.length) (H:FQ (s.th p) t):FQ (s.th p) ((setT u p t).th p):=by rw [th_setT hu hp];exact H
theorem fq1 {s:Sta} {p:Nat} (hp:p<s.ths.length) (F:FO (s.th p)) (h:(s.th p).pc=1):FQ (s.th p) ((stepV s p).th p):=fq_of ((st1 h).trans rfl) (fq_id hp (.no (by dsimp only;split <;> omega)))
theorem fq2 {s:Sta} {p:Nat} (hp:p<s.ths.length) (F:FO (s.th p)) (h:(s.th p).pc=2):FQ (s.th p) ((stepV s p).th p):=fq_of ((st2 h).trans rfl) (fq_put hp (.no (by dsimp only;omega)))
theorem fq3 {s:Sta} {p:Nat} (hp:p<s.ths.length) (F:FO (s.th p)) (h:(s.th p).pc=3):FQ (s.th p) ((stepV s p).th p):=fq_of ((st3 h).trans rfl) (fq_u Xqr hp (.no (by dsimp only;split <;> omega)))
theorem fq4 {s:Sta} {p:Nat} (hp:p<s.ths.length) (F:FO (s.th p)) (h:(s.th p).pc=4):FQ (s.th p) ((stepV s p).th p):=fq_of ((st4 h).trans rfl) (fq_u swp_ths hp (.end (by decide)))
theorem fq5 {s:Sta} {p:Nat} (hp:p<s.ths.length) (F:FO (s.th p)) (h:(s.th p).pc=5):FQ (s.th p) ((stepV s p).th p):=fq_of ((st5 h).trans rfl) (fq_put hp (.end (by decide)))
theorem fq10 {s:Sta} {p:Nat} (hp:p<s.ths.length) (F:FO (s.th p)) (h:(s.th p).pc=10):FQ (s.th p) ((stepV s p).th p):=fq_of ((st10 h).trans rfl) (fq_id hp .go)
theorem fq11 {s:Sta} {p:Nat} (hp:p<s.ths.length) (F:FO (s.th p)) (h:(s.th p).pc=11):FQ (s.th p) ((stepV s p).th p):=fq_of ((st11 h).trans rfl) (fq_put hp (.no (by dsimp only;omega)))
theorem fq12 {s:Sta} {p:Nat} (hp:p<s.ths.length) (F:FO (s.th p)) (h:(s.th p).pc=12):FQ (s.th p) ((stepV s p).th p):=fq_of ((st12 h).trans rfl) (fq_u (Xqr.trans lnkF_ths) hp (.no (by dsimp only;split <;> omega)))
theorem fq13 {s:Sta} {p:Nat} (hp:p<s.ths.length) (F:FO (s.th p)) (h:(s.th p).pc=13):FQ (s.th p) ((stepV s p).th p):=fq_of ((st13 h).trans rfl) (fq_u Xlm hp (.no (by dsimp only;split <;> (try split) <;> omega)))
theorem fq15 {s:Sta} {p:Nat} (hp:p<s.ths.length) (F:FO (s.th p)) (h:(s.th p).pc=15):FQ (s.th p) ((stepV s p).th p):=fq_of ((st15 h).trans rfl) (fq_put hp .go)
theorem fq16 {s:Sta} {p:Nat} (hp:p<s.ths.length) (F:FO (s.th p)) (h:(s.th p).pc=16):FQ (s.th p) ((stepV s p).th p):=fq_of ((st16 h).trans rfl) (fq_u Xlm hp (.no (by dsimp only;split <;> (try split) <;> omega)))
theorem fq17 {s:Sta} {p:Nat} (hp:p<s.ths.length) (F:FO (s.th p)) (h:(s.th p).pc=17):FQ (s.th p) ((stepV s p).th p):=fq_of ((st17 h).trans rfl) (fq_id hp (.no (by dsimp only;omega)))
theorem fq18 {s:Sta} {p:Nat} (hp:p<s.ths.length) (F:FO (s.th p)) (h:(s.th p).pc=18):FQ (s.th p) ((stepV s p).th p):=fq_of ((st18 h).trans rfl) (fq_u (swp_ths.trans Xlm) hp (.no (by dsimp only;omega)))
theorem fq19 {s:Sta} {p:Nat} (hp:p<s.ths.length) (F:FO (s.th p)) (h:(s.th p).pc=19):FQ (s.th p) ((stepV s p).th p):=fq_of ((st19 h).trans rfl) (fq_u Xlm hp ⟨⟨fun _=>.inl rfl,fun x=>(by rcases x with x | x <;> cases x)⟩,fun x=>(by cases x)⟩)
theorem fq20 {s:Sta} {p:Nat} (hp:p<s.ths.length) (F:FO (s.th p)) (h:(s.th p).pc=20):FQ (s.th p) ((stepV s p).th p):=fq_of ((st20 h).trans rfl) (fq_put hp ⟨⟨fun _=>F.a (.inl h),fun x=>(by rcases x with x | x <;> cases x)⟩,fun x=>(by cases x)⟩)
theorem fq21 {s:Sta} {p:Nat} (hp:p<s.ths.length) (F:FO (s.th p)) (h:(s.th p).pc=21):FQ (s.th p) ((stepV s p).th p):=fq_of ((st21 h).trans rfl) (fq_put hp (.end (fun e=>by rcases F.a (.inr h) with x | x <;> omega)))
theorem fq32 {s:Sta} {p:Nat} (hp:p<s.ths.length) (F:FO (s.th p)) (h:(s.th p).pc=32):FQ (s.th p) ((stepV s p).th p):=fq_of ((st32 h).trans rfl) (fq_u (Xqq.trans Xlm) hp (.no (by dsimp only;omega)))
theorem fq33 {s:Sta} {p:Nat} (hp:p<s.ths.length) (F:FO (s.th p)) (h:(s.th p).pc=33):FQ (s.th p) ((stepV s p).th p):=fq_of ((st33 h).trans rfl) (fq_u (Xqq.trans Xlm) hp (.no (by dsimp only;omega)))
theorem fq34 {s:Sta} {p:Nat} (hp:p<s.ths.length) (F:FO (s.th p)) (h:(s.th p).pc=34):FQ (s.th p) ((stepV s p).th p):=fq_of ((st34 h).trans rfl) (fq_put hp (.no (by dsimp only;omega)))
theorem fq35 {s:Sta} {p:Nat} (hp:p<s.ths.length) (F:FO (s.th p)) (h:(s.th p).pc=35):FQ (s.th p) ((stepV s p).th p):=fq_of ((st35 h).trans rfl) (fq_id hp (.no (by dsimp only;split <;> omega)))
theorem fq36 {s:Sta} {p:Nat} (hp:p<s.ths.length) (F:FO (s.th p)) (h:(s.th p).pc=36):FQ (s.th p) ((stepV s p).th p):=fq_of ((st36 h).trans rfl) (fq_put hp (.no (by dsimp only;omega)))
theorem fq37 {s:Sta} {p:Nat} (hp:p<s.ths.length) (F:FO (s.th p)) (h:(s.th p).pc=37):FQ (s.th p) ((stepV s p).th p):=fq_of ((st37 h).trans rfl) (fq_u Xqr hp (.no (by dsimp only;split <;> omega)))
theorem fq38 {s:Sta} {p:Nat} (hp:p<s.ths.length) (F:FO (s.th p)) (h:(s.th p).pc=38):FQ (s.th p) ((stepV s p).th p):=fq_of ((st38 h).trans rfl) (fq_u Xlm hp (.no (by dsimp only;split <;> omega)))
theorem fq39 {s:Sta} {p:Nat} (hp:p<s.ths.length) (F:FO (s.th p)) (h:(s.th p).pc=39):FQ (s.th p) ((stepV s p).th p):=fq_of ((st39 h).trans rfl) (fq_id hp (.no (by dsimp only;omega)))
theorem fq40 {s:Sta} {p:Nat} (hp:p<s.ths.length) (F:FO (s.th p)) (h:(s.th p).pc=40):FQ (s.th p) ((stepV s p).th p):=fq_of ((st40 h).trans rfl) (fq_u (swp_ths.trans Xlm) hp (.no (by dsimp only;omega)))
theorem fq41 {s:Sta} {p:Nat} (hp:p<s.ths.length) (F:FO (s.th p)) (h:(s.th p).pc=41):FQ (s.th p) ((stepV s p).th p):=fq_of ((st41 h).trans rfl) (fq_u (Xqq.trans Xlm) hp (.no (by dsimp only;omega)))
theorem fq43 {s:Sta} {p:Nat} (hp:p<s.ths.length) (F:FO (s.th p)) (h:(s.th p).pc=43):FQ (s.th p) ((stepV s p).th p):=fq_of ((st43 h).trans rfl) (fq_id hp (.no (by dsimp only;omega)))
theorem fq44 {s:Sta} {p:Nat} (hp:p<s.ths.length) (F:FO (s.th p)) (h:(s.th p).pc=44):FQ (s.th p) ((stepV s p).th p):=fq_of ((st44 h).trans rfl) (fq_u (swp_ths.trans Xlm) hp (.no (by dsimp only;omega)))
theorem fq45 {s:Sta} {p:Nat} (hp:p<s.ths.length) (F:FO (s.th p)) (h:(s.th p).pc=45):FQ (s.th p) ((stepV s p).th p):=fq_of ((st45 h).trans rfl) (fq_u Xlm hp (.no (by dsimp only;omega)))
theorem fq46 {s:Sta} {p:Nat} (hp:p<s.ths.length) (F:FO (s.th p)) (h:(s.th p).pc=46):FQ (s.th p) ((stepV s p).th p):=fq_of ((st46 h).trans rfl) (fq_put hp (.no (by dsimp only;omega)))
theorem fq60 {s:Sta} {p:Nat} (hp:p<s.ths.length) (F:FO (s.th p)) (h:(s.th p).pc=60):FQ (s.th p) ((stepV s p).th p):=fq_of ((st60 h).trans rfl) (fq_u Xlm hp (.no (by dsimp only;omega)))
theorem fq62 {s:Sta} {p:Nat} (hp:p<s.ths.length) (F:FO (s.th p)) (h:(s.th p).pc=62):FQ (s.th p) ((stepV s p).th p):=fq_of ((st62 h).trans rfl) (fq_put hp (.no (by dsimp only;omega)))
theorem fq63 {s:Sta} {p:Nat} (hp:p<s.ths.length) (F:FO (s.th p)) (h:(s.th p).pc=63):FQ (s.th p) ((stepV s p).th p):=fq_of ((st63 h).trans rfl) (fq_put hp .fin)
theorem fq80 {s:Sta} {p:Nat} (hp:p<s.ths.length) (F:FO (s.th p)) (h:(s.th p).pc=80):FQ (s.th p) ((stepV s p).th p):=fq_of ((st80 h).trans rfl) (fq_put hp (.end (by decide)))
theorem fq14 {s:Sta} {p:Nat} (hp:p<s.ths.length) (F:FO (s.th p)) (h:(s.th p).pc=14):FQ (s.th p) ((stepV s p).th p):=by
 refine fq_of (st14 h) ?_
 unfold sk14
 split
 ·exact fq_u (Xqq.trans lnkF_ths) hp .go
 ·exact fq_u (Xqr.trans lnkF_ths) hp (.no (by dsimp only;omega))
theorem fq30 {s:Sta} {p:Nat} (hp:p<s.ths.length) (F:FO (s.th p)) (h:(s.th p).pc=30):FQ (s.th p) ((stepV s p).th p):=by
 refine fq_of (st30 h) ?_
 unfold sk30
 split
 ·exact fq_id hp ⟨⟨fun x=>(by rcases x with x | x <;> cases x),fun x=>(by rcases x with x | x <;> cases x)⟩,fun _ _=>h⟩
 ·exact fq_id hp ⟨⟨fun x=>(by rcases x with x | x <;> cases x),fun _=>F.b (.inl h)⟩,fun x=>(by cases x)⟩
theorem fq31 {s:Sta} {p:Nat} (hp:p<s.ths.length) (F:FO (s.th p)) (h:(s.th p).pc=31):FQ (s.th p) ((stepV s p).th p):=by
 refine fq_of (st31 h) ?_
 unfold sk31
 split
 ·exact fq_put hp (.no (by dsimp only;omega))
 ·exact fq_u Xqr hp ⟨⟨fun x=>(by rcases x with x | x <;> cases x),fun _=>F.b (.inr h)⟩,fun x=>(by cases x)⟩
theorem fq42 {s:Sta} {p:Nat} (hp:p<s.ths.length) (F:FO (s.th p)) (h:(s.th p).pc=42):FQ (s.th p) ((stepV s p).th p):=by
 refine fq_of (st42 h) ?_
 unfold sk42
 split
 ·exact fq_put hp (.no (by dsimp only;omega))
 ·exact fq_u Xqr hp (.no (by dsimp only;omega))
theorem fq47 {s:Sta} {p:Nat} (hp:p<s.ths.length) (F:FO (s.th p)) (h:(s.th p).pc=47):FQ (s.th p) ((stepV s p).th p):=by
 refine fq_of (st47 h) ?_
 unfold sk47
 refine fq_put hp ?_
 split
 ·exact .at (a:=50) rfl (by decide)
 ·exact .end (by decide)
theorem fq50 {s:Sta} {p:Nat} (hp:p<s.ths.length) (F:FO (s.th p)) (h:(s.th p).pc=50):FQ (s.th p) ((stepV s p).th p):=by
 refine fq_of (st50 h) ?_
 unfold sk50
 split
 ·exact fq_id hp (.no (by dsimp only;omega))
 ·exact fq_id hp (.ite .fin (.at (a:=60) rfl (by decide)))
theorem fq61 {s:Sta} {p:Nat} (hp:p<s.ths.length) (F:FO (s.th p)) (h:(s.th p).pc=61):FQ (s.th p) ((stepV s p).th p):=by
 refine fq_of (st61 h) ?_
 unfold sk61
 split
 ·exact fq_put hp (.no (by dsimp only;omega))
 ·exact fq_u (Xqr.trans Xlm) hp (.no (by dsimp only;omega))
theorem fq70 {s:Sta} {p:Nat} (hp:p<s.ths.length) (F:FO (s.th p)) (h:(s.th p).pc=70):FQ (s.th p) ((stepV s p).th p):=by
 refine fq_of (st70 h) ?_
 unfold sk70
 split
 ·exact fq_id hp (.no (by dsimp only;omega))
 ·dsimp only
  exact fq_u (s:=s) rfl hp (.end (by decide))
theorem fq_step {s:Sta} {p:Nat} (hp:p<s.ths.length) (hpc:Xfs (s.th p).pc=true) (h0:(s.th p).pc≠0) (F:FO (s.th p)):FQ (s.th p) ((stepV s p).th p):=by
 have hm:=X0d hpc
 simp only [pcL,List.mem_cons,List.not_mem_nil,or_false] at hm
 rcases hm with h | h | h | h | h | h | h | h | h | h | h | h | h | h | h | h | h | h | h | h | h | h | h | h | h | h | h | h | h | h | h | h | h | h | h | h | h | h | h | h | h | h | h
 ·exact absurd h h0
 ·exact fq1 hp F h
 ·exact fq2 hp F h
 ·exact fq3 hp F h
 ·exact fq4 hp F h
 ·exact fq5 hp F h
 ·exact fq10 hp F h
 ·exact fq11 hp F h
 ·exact fq12 hp F h
 ·exact fq13 hp F h
 ·exact fq14 hp F h
 ·exact fq15 hp F h
 ·exact fq16 hp F h
 ·exact fq17 hp F h
 ·exact fq18 hp F h
 ·exact fq19 hp F h
 ·exact fq20 hp F h
 ·exact fq21 hp F h
 ·exact fq30 hp F h
 ·exact fq31 hp F h
 ·exact fq32 hp F h
 ·exact fq33 hp F h
 ·exact fq34 hp F h
 ·exact fq35 hp F h
 ·exact fq36 hp F h
 ·exact fq37 hp F h
 ·exact fq38 hp F h
 ·exact fq39 hp F h
 ·exact fq40 hp F h
 ·exact fq41 hp F h
 ·exact fq42 hp F h
 ·exact fq43 hp F h
 ·exact fq44 hp F h
 ·exact fq45 hp F h
 ·exact fq46 hp F h
 ·exact fq47 hp F h
 ·exact fq50 hp F h
 ·exact fq60 hp F h
 ·exact fq61 hp F h
 ·exact fq62 hp F h
 ·exact fq63 hp F h
 ·exact fq70 hp F h
 ·exact fq80 hp F h
theorem fo_beg {s:Sta} {t:Th} {o:Op3}:FO (V8 s t o):=by
 have key:∀ t':Th,t'.pc≠20∧t'.pc≠21∧t'.pc≠30∧t'.pc≠31→FO t':=fun t' h=>⟨fun x=>by omega,fun x=>by omega⟩
 unfold V8
 split
 ·unfold begT
  dsimp only
  split
  ·exact key _ (by dsimp only;omega)
  ·split
   ·exact key _ (by dsimp only;omega)
   ·split
    ·exact key _ (by dsimp only;omega)
    ·split
     ·exact key _ (by dsimp only;omega)
     ·split
      ·rename_i hf
       exact ⟨fun x=>(by rcases x with x | x <;> cases x),fun _=>List.eq_nil_of_length_eq_zero hf⟩
      ·exact key _ (by dsimp only;omega)
 ·exact key _ (by show (0:Int)≠20∧(0:Int)≠21∧(0:Int)≠30∧(0:Int)≠31;omega)
theorem full_cells {s:Sta} {p:Nat} (hp:p<s.ths.length) (h:(s.th p).pc=30) (h0:((stepV s p).th p).pc=0):(stepV s p).cells=s.cells∧cl s 1≥s.c.cap:=by
 have e:stepV s p={sk30 s p (s.th p) with steps:=s.steps+1}:=by unfold stepV;rw [st30 h]
 rw [e] at h0 ⊢
 unfold sk30 at h0 ⊢
 split at h0
 ·rename_i hc
  rw [if_pos hc];exact ⟨rfl,hc⟩
 ·rename_i hc
  rw [show ({setT s p {s.th p with seen:=cl s 1,pc:=31} with steps:=s.steps+1}:Sta).th p=(setT s p {s.th p with seen:=cl s 1,pc:=31}).th p from rfl,th_setT rfl hp] at h0
  cases h0
structure FM (m:Mac):Prop where
 t:∀ p,p<m.s.ths.length→FO (m.s.th p)
theorem stepV_oth {s:Sta} {p q:Nat} {ns:Nat→Nat} (H:SI s ns) (hp:p<s.ths.length) (hn:ns p≤100) (h0:(s.th p).pc≠0) (hq:q≠p):(stepV s p).th q=s.th q:=by
 obtain ⟨s',t',e,_,_,e3,_⟩:=(Xct H hp hn h0).ex
 rw [e,Xuh (by rw [e3];exact hp),if_neg hq]
 unfold Sta.th;rw [e3]
theorem FM.pick {m:Mac} {p:Nat} (M:MI m) (F:FM m) (hp:p<m.s.ths.length):FM (Um m p):=by
 have hn:cntE p m.evs≤100:=Nat.le_trans Xv8 (by have:=M.el;omega)
 unfold Um
 by_cases h0:(m.s.th p).pc≠0
 ·rw [if_pos h0]
  refine ⟨fun q hq=>?_⟩
  have hl:=(Xct M.si hp hn h0).len.1
  dsimp only at hq ⊢
  by_cases e:q=p
  ·subst e;exact (fq_step hp (M.si.tv q hp).1.pcs h0 (F.t q hp)).1
  ·rw [stepV_oth M.si hp hn h0 e];exact F.t q (Nat.lt_of_lt_of_eq hq hl)
 ·rw [if_neg h0]
  refine ⟨fun q hq=>?_⟩
  dsimp only at hq ⊢
  unfold Y5 at hq ⊢
  rw [Xuh hp]
  split
  ·exact fo_beg
  ·exact F.t q (by simpa using hq)
theorem FM.new {c:Cf} {ps:List (List Op3)}:FM (Uf c ps):=by
 refine ⟨fun p hp=>?_⟩
 have e:(Uf c ps).s.th p=th0:=by
  show (List.replicate c.th.toNat th0).getD p default=th0
  have hp':p<c.th.toNat:=by simpa [Uf,Za] using hp
  simp [List.getD_eq_getElem?_getD,hp']
 rw [e]
 exact ⟨fun x=>(by rcases x with x | x <;> cases x),fun x=>(by rcases x with x | x <;> cases x)⟩
theorem FM.full {m:Mac} {p:Nat} (M:MI m) (F:FM m) (hp:p<m.s.ths.length) (h0:(m.s.th p).pc≠0) (h1:((Um m p).s.th p).pc=0) (h2:((Um m p).s.th p).res.c=2) :
 (m.s.th p).pc=30∧(m.s.th p).free=[]∧cl m.s 1=m.s.c.cap∧(Um m p).s.cells=m.s.cells:=by
 have e:(Um m p).s=stepV m.s p:=by unfold Um;rw [if_pos h0]
 rw [e] at h1 h2 ⊢
 have h3:=(fq_step hp (M.si.tv p hp).1.pcs h0 (F.t p hp)).2 h1 h2
 obtain ⟨h4,h5⟩:=full_cells hp h3 h1
 have:=M.si.cv.ar
 exact ⟨h3,(F.t p hp).b (.inl h3),by omega,h4⟩
end
theorem rp_fm {c:Cf} {ps:List (List Op3)} {m:Mac} {l:List Int} (O:On c ps 0 m) (C:FM m) (hl:∀ a∈l,0≤a∧a≤9000):∀ {k:Nat},k≤l.length→FM (rp m l k)
 | 0,_=>by rw [Xqz];exact C
 | k+1,h=>by
   rw [Xq0 h]
   have O1:=Xwl O hl (Nat.le_of_lt h)
   have ih:=rp_fm O C hl (k:=k) (Nat.le_of_lt h)
   have hp:=(Xhl O1 (hl _ (Xi (Nat.lt_of_succ_le h)))).1
   unfold doPk
   split
   ·exact ih.pick O1.mi hp
   ·exact ih
theorem tyU8x {n:Nat} {avs:List AV} (h:Ty tys (n+1) 5 avs):∃ i:Int,avs=u8A i:=by
 obtain ⟨a,rfl,_⟩:=h
 exact ⟨a,rfl⟩
theorem tyBytes {n:Nat} {avs:List AV} (h:Ty tys (n+2) 68 avs):∃ xs:List Int,avs=[.lst 1 (xs.map u8A)]∧xs.length≤maxLen:=by
 obtain ⟨rows,rfl,hl,hr⟩:=h
 obtain ⟨xs,rfl,_⟩:=Xi1 (Q:=fun _=>True) fun row hrow=>by obtain ⟨o,h⟩:=tyU8x (hr row hrow);exact ⟨o,h,trivial⟩
 exact ⟨xs,rfl,by simpa using hl⟩
theorem F_laws_big {n:Nat} {bs:List Int} (hl:bs.length≤maxLen):callP cfg (n+1) 45 [.lst 1 (bs.map u8A)]=some ⟨.bool (decide (((bs.map u8A).length:Int)>1048576)),[]⟩:=by
 rw [Xa]
 refine go ?_
 try with_reducible rfl
 all_goals rfl
set_option maxHeartbeats 16000000 in
theorem F_laws_FnFullOnly {n:Nat} {bs:List Int} (hl:bs.length≤maxLen):callP cfg (n+70) 12 [.lst 1 (bs.map u8A)]=some ⟨.bool true,[]⟩:=by
 rw [Xa]
 have hlm:=hl
 by_cases hb:((bs.map u8A).length:Int)>1048576
 ·have d0:decide (((bs.map u8A).length:Int)>1048576)=true:=decide_eq_true hb
  have fq1:=fun {n:Nat}=>F_laws_big (n:=n) hl
  refine go ?_
  clear fq1
  try with_reducible rfl
  all_goals rfl
 ·have d0:decide (((bs.map u8A).length:Int)>1048576)=false:=decide_eq_false hb
  obtain ⟨x,hr,hD⟩:=F_spec_DrawRunScript (P:=fun r=>∃ x:Scr,x.room∧r=some ⟨.agg (scrA x),[]⟩) (n:=n+61) hlm (fun c ps pk h1 h2 h3=>⟨⟨c,ps,pk⟩,⟨by show ps.length≤_;omega,fun l hl2=>by have:=h2 l hl2;omega,by show pk.length≤_;omega⟩,rfl⟩)
  have fq12:callP cfg (n+69) 46 [.lst 1 (bs.map u8A)]=some ⟨.agg (scrA x),[]⟩:=hD
  obtain ⟨h1,h2,h3⟩:=id hr
  have hNM:=fun {n:Nat}=>Wp (n:=n) (c:=x.c) (ps:=x.ps) h1 h2
  have hIS:=fun {n:Nat}=>Ws (n:=n) hr
  by_cases hs:scrB x=true
  ·have hpr:=Xkf hs
   rw [if_pos hpr,hpr] at hNM
   rw [hs] at hIS
   have fq10:=@hNM
   have fq11:=@hIS
   have fq1:=fun {n:Nat}=>F_laws_big (n:=n) hl
   refine goD ?_
   clear fq1
   have hls:x.picks.length≤400:=by
    unfold scrB at hs
    simp only [Bool.and_eq_true,decide_eq_true_eq] at hs
    exact hs.2.1
   have hal:=Xq1 hs
   have O:=On.new hpr
   have hcf:Yp x.c=true:=by
    unfold Vv at hpr
    exact (Bool.and_eq_true_iff.1 hpr).1
   refine (Xb (fun e k=>e.set 6 (.int .i64 (k:Int))) (fun h k=>h.set 4 (some ⟨false,false,true,17,[[.int .i64 (rp (Uf x.c x.ps) x.picks k).s.c.th,.int .i64 (rp (Uf x.c x.ps) x.picks k).s.c.keys,.int .i64 (rp (Uf x.c x.ps) x.picks k).s.c.cap,.int .i64 (rp (Uf x.c x.ps) x.picks k).s.c.b,.int .i64 (rp (Uf x.c x.ps) x.picks k).s.c.p,.int .i64 (rp (Uf x.c x.ps) x.picks k).s.c.cm,Xl (rp (Uf x.c x.ps) x.picks k).s.cells,Xl (rp (Uf x.c x.ps) x.picks k).s.gens,thsA (rp (Uf x.c x.ps) x.picks k).s.ths,.int .i64 (rp (Uf x.c x.ps) x.picks k).s.steps,.int .i64 (rp (Uf x.c x.ps) x.picks k).s.changes,.int .i64 (rp (Uf x.c x.ps) x.picks k).s.retries,.int .i64 (rp (Uf x.c x.ps) x.picks k).s.faults,Yt (rp (Uf x.c x.ps) x.picks k).progs,Xl (rp (Uf x.c x.ps) x.picks k).next,evsA (rp (Uf x.c x.ps) x.picks k).evs,.int .i64 (rp (Uf x.c x.ps) x.picks k).time]]⟩)) (fun _=>some ⟨.bool true,[]⟩) x.picks.length (by show _<18446744073709551616;omega) (by rw [Xqz];rfl) ?_).trans rfl
   intro k f hk IH
   by_cases hlt:k<x.picks.length
   ·have e1:=Xf (f:=iA) hlt
    have e2:=Xg k
    have r1:=Xe (f:=iA) hlt
    have hw:=Xv (k:=k) (by omega)
    have O1:=Xwl O hal hk
    have F1:=rp_fm O FM.new hal hk
    have hpk:=hal _ (Xi hlt)
    have hsc:=Xq0 (m:=Uf x.c x.ps) hlt
    generalize hRR:rp (Uf x.c x.ps) x.picks k=R at *
    generalize hPP:x.picks.getD k default=pk at *
    have M1:=O1.mi
    have htm:=O1.tm
    have hpn:=O1.pn
    obtain ⟨q1,q2⟩:=Xhl O1 hpk
    have O2:=O1.step hpk
    have hth:x.c.th=(R.progs.length:Int):=by rw [←O1.mi.pl.symm,O1.cf]
    have hz:decide (x.c.th=0)=false:=decide_eq_false (by omega)
    have htd:pk.tmod x.c.th=((pkN R pk:Nat):Int):=by rw [Int.tmod_eq_emod_of_nonneg hpk.1,hth];exact q2
    have hP1:∀ {n:Nat},callP cfg (n+60) 50 [.agg (macA R),.int .i64 pk]=some ⟨.tup [.agg (macA (doPk R pk)),.bool (canV R (pkN R pk))],[]⟩:=fun {n}=>Xf5 (n:=n) M1 q1 hpk q2
    have hP2:∀ {n:Nat},callP cfg (n+68) 53 [.agg (macA R),.int .i64 pk]=some ⟨.tup [.agg (macA (doPk R pk)),.bool (canV R (pkN R pk))],[]⟩:=fun {n}=>F_spec_Pick (n:=n) M1 (by omega) q1 hpk q2
    have hfull:=F1.full M1 q1
    have hZd:canV R (pkN R pk)=true→doPk R pk=Um R (pkN R pk):=fun h=>by unfold doPk;rw [if_pos h]
    generalize hpp:pkN R pk=p at *
    generalize hZZ:doPk R pk=Z at *
    have hZl:p<Z.s.ths.length:=by
     have g2:=O2.pn
     have g1:=O1.pn
     rw [O2.pr] at g2
     rw [O1.pr] at g1
     omega
    have hmr:Z.room:=O2.mi.mroom
    have hro:=M1.room
    have hio:=M1.i64
    have hst:=M1.sta
    have a1:decide (pk.tmod x.c.th<((R.s.ths.map thA).length:Int))=true:=by rw [htd];exact Xf (f:=thA) q1
    have a2:decide (0≤pk.tmod x.c.th)=true:=by rw [htd];exact Xg p
    have r2:(R.s.ths.map thA)[(pk.tmod x.c.th).toNat]?=some (thA (R.s.ths.getD p default)):=by rw [htd];exact Xe (f:=thA) q1
    have a3:decide (pk.tmod x.c.th<((Z.s.ths.map thA).length:Int))=true:=by rw [htd];exact Xf (f:=thA) hZl
    have r3:(Z.s.ths.map thA)[(pk.tmod x.c.th).toNat]?=some (thA (Z.s.ths.getD p default)):=by rw [htd];exact Xe (f:=thA) hZl
    have a4:decide (((Z.s.ths.map thA).length:Int)>pk.tmod x.c.th)=true:=by simpa using a3
    cases hcv:canV R p
    ·rw [hcv] at hP1 hP2
     have fq9:=@hP1
     have fq11:=@hP2
     have fq1:=fun {n:Nat}=>F_impl_EqualMachines (n:=n) hmr
     refine goD ?_
     clear fq1
     try with_reducible rfl
     exact IH hlt _ _ (by rw [hw];rfl) (by rw [hsc];rfl)
    ·rw [hcv] at hP1 hP2
     have fq9:=@hP1
     have fq11:=@hP2
     by_cases c1:(R.s.ths.getD p default).pc=0
     ·have y1:((R.s.ths.getD p default).pc !=0)=false:=Yb c1
      have fq1:=fun {n:Nat}=>F_impl_EqualMachines (n:=n) hmr
      refine goD ?_
      clear fq1
      try with_reducible rfl
      exact IH hlt _ _ (by rw [hw];rfl) (by rw [hsc];rfl)
     ·have y1:((R.s.ths.getD p default).pc !=0)=true:=Zn c1
      by_cases c2:(Z.s.ths.getD p default).pc=0
      ·have y2:((Z.s.ths.getD p default).pc==0)=true:=Yk c2
       by_cases c3:(Z.s.ths.getD p default).res.c=2
       ·have y3:((Z.s.ths.getD p default).res.c==2)=true:=Yk c3
        have hZ2:=hZd hcv
        obtain ⟨g1,g2,g3,g4⟩:=hfull c1 (by rw [←hZ2];exact c2) (by rw [←hZ2];exact c3)
        rw [←hZ2] at g4
        have y4:((R.s.ths.getD p default).pc !=30)=false:=Yb g1
        have y5:decide ((((R.s.ths.getD p default).free.map iA).length:Int)>0)=false:=decide_eq_false (by show ¬((((R.s.th p).free.map iA).length:Int)>0);rw [g2];simp)
        have y6:(cl R.s 1 !=x.c.cap)=false:=Yb (by rw [g3,O1.cf])
        have fq6:=fun {n:Nat}=>F_impl_NodesBorn (n:=n) hst hro hio
        have hcl:R.s.cells.length≤1048576:=hro.1
        have fq7:∀ {n:Nat},callP cfg (n+1) 52 [Xl Z.s.cells,Xl R.s.cells]=some ⟨.bool true,[]⟩:=fun {n}=>by rw [g4];exact F_laws_sameInts (n:=n) hcl
        have fq1:=fun {n:Nat}=>F_impl_EqualMachines (n:=n) hmr
        refine goD ?_
        clear fq1
        try with_reducible rfl
        exact IH hlt _ _ (by rw [hw];rfl) (by rw [hsc];rfl)
       ·have y3:((Z.s.ths.getD p default).res.c==2)=false:=Xt c3
        have fq1:=fun {n:Nat}=>F_impl_EqualMachines (n:=n) hmr
        refine goD ?_
        clear fq1
        try with_reducible rfl
        exact IH hlt _ _ (by rw [hw];rfl) (by rw [hsc];rfl)
      ·have y2:((Z.s.ths.getD p default).pc==0)=false:=Xt c2
       have fq1:=fun {n:Nat}=>F_impl_EqualMachines (n:=n) hmr
       refine goD ?_
       clear fq1
       try with_reducible rfl
       exact IH hlt _ _ (by rw [hw];rfl) (by rw [hsc];rfl)
   ·have e1:=Xh (f:=iA) (Nat.le_of_not_lt hlt)
    refine go ?_
    try with_reducible rfl
    all_goals rfl
  ·replace hs:scrB x=false:=by simpa using hs
   rw [hs] at hIS
   have fq11:=@hIS
   by_cases hpr:Vv x.c x.ps=true
   ·rw [if_pos hpr,hpr] at hNM
    have fq10:=@hNM
    have fq1:=fun {n:Nat}=>F_laws_big (n:=n) hl
    refine goD ?_
    clear fq1
    try with_reducible rfl
    all_goals rfl
   ·replace hpr:Vv x.c x.ps=false:=by simpa using hpr
    rw [if_neg (by rw [hpr];simp),hpr] at hNM
    have fq10:=@hNM
    have fq1:=fun {n:Nat}=>F_laws_big (n:=n) hl
    refine goD ?_
    clear fq1
    try with_reducible rfl
    all_goals rfl
end Go.Proofs.YtbploohjimpcaaaGreat.A
