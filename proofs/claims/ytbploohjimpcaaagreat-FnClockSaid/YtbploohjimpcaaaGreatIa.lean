/- What the program's functions answer (Ia): no condition. -/
import Derived.Test.YtbploohjimpcaaaGreatGg
set_option linter.unusedVariables false
set_option linter.unusedSimpArgs false
namespace Go.Proofs.YtbploohjimpcaaaGreat.A
open Go Go.Abs
set_option maxRecDepth 100000
noncomputable section
theorem put_c' {s:Sta} {a v:Int}:(put s a v).c=s.c:=by unfold put;split <;> rfl
theorem swp_ths {s:Sta} {a o v:Int}:(swp s a o v).ths=s.ths:=by unfold swp;split;exact Xqq;rfl
theorem swp_c' {s:Sta} {a o v:Int}:(swp s a o v).c=s.c:=by unfold swp;split;exact put_c';rfl
theorem flt_c' {s:Sta} {h:Int}:(flt s h).c=s.c:=by unfold flt;split <;> rfl
theorem flt_cells' {s:Sta} {h:Int}:(flt s h).cells=s.cells:=by unfold flt;split <;> rfl
theorem rtr_c' {s:Sta} {b:Bool}:(rtr s b).c=s.c:=by unfold rtr;split <;> rfl
theorem rtr_cells' {s:Sta} {b:Bool}:(rtr s b).cells=s.cells:=by unfold rtr;split <;> rfl
theorem lnkF_ths {s:Sta} {t:Th}:(lnkF s t).ths=s.ths:=by unfold lnkF;split;rfl;exact Xlm
theorem lnkF_c' {s:Sta} {t:Th}:(lnkF s t).c=s.c:=by unfold lnkF;split;rfl;exact flt_c'
theorem lnkF_cells' {s:Sta} {t:Th}:(lnkF s t).cells=s.cells:=by unfold lnkF;split;rfl;exact flt_cells'
theorem put0 {s:Sta} {a v:Int} (h:a≠0):(put s a v).cells.getD 0 default=s.cells.getD 0 default:=by
 unfold put
 split
 ·rename_i ha
  have:a.toNat≠0:=by omega
  simp [List.getD_eq_getElem?_getD,List.getElem?_set,this]
 ·rfl
theorem swp0 {s:Sta} {a o v:Int} (h:a≠0):(swp s a o v).cells.getD 0 default=s.cells.getD 0 default:=by
 unfold swp;split;exact put0 h;rfl
theorem annB_ne {c:Cf} {p:Nat}:annB c (p:Int)≠0:=by unfold annB;split <;> omega
theorem hazB_ne {c:Cf} {p:Nat} {j:Int} (h:Yp c=true) (hj:0≤j):hazB c (p:Int) j≠0:=by
 have:=Xm h
 unfold hazB;split <;> omega
theorem headB_ne {c:Cf} {k:Int} (h:Yp c=true):X2 c k≠0:=by
 have:=Xm h
 unfold X2;split <;> omega
theorem fldA_ne {s:Sta} {h f:Int} (hc:Yp s.c=true):fldA s h f≠0:=by
 have:=Xm hc
 unfold fldA ncB
 split
 ·split <;> omega
 ·omega
theorem lnkA_ne {s:Sta} {t:Th} (hc:Yp s.c=true):lnkA s t≠0:=by
 unfold lnkA;split
 ·exact headB_ne hc
 ·exact fldA_ne hc
theorem goOn_op {t:Th}:(goOn t).op=t.op∧(goOn t).snap=t.snap∧10≤(goOn t).pc:=by
 unfold goOn
 split
 ·exact ⟨rfl,rfl,by show (10:Int)≤11;decide⟩
 ·split
  ·exact ⟨rfl,rfl,by show (10:Int)≤20;decide⟩
  ·split
   ·exact ⟨rfl,rfl,by show (10:Int)≤62;decide⟩
   ·refine ⟨rfl,rfl,?_⟩
    show 10≤if _ then (62:Int) else 60
    split <;> decide
theorem fin_op {c:Cf} {t:Th}:(fin c t).op=t.op∧(fin c t).snap=t.snap∧((fin c t).pc=0∨10≤(fin c t).pc):=by
 unfold fin
 split
 ·exact ⟨rfl,rfl,.inr (by show (10:Int)≤70;decide)⟩
 ·exact ⟨rfl,rfl,.inl rfl⟩
def Tr (cm k k':Int) (t t':Th):Prop:=t'.op=t.op ∧
 ((t.pc=1∧k'=k∧t'.snap=t.snap∧((k≥cm∧t'.pc=5)∨(k<cm∧t'.pc=2∧t'.seen=k))) ∨
  (t.pc=2∧k'=k∧t'.snap=t.snap∧t'.pc=3∧t'.seen=t.seen) ∨
  (t.pc=3∧k'=k∧t'.snap=t.snap∧((t'.pc=4∧t'.seen=t.seen)∨t'.pc=1)) ∨
  (t.pc=4∧t'.pc=0∧t'.res=⟨0,0⟩∧t'.snap=t.seen∧((k=t.seen∧k'=t.seen+1)∨(k≠t.seen∧k'=k))) ∨
  (t.pc=5∧k'=k∧t'.snap=t.snap∧t'.pc=0∧t'.res=⟨5,0⟩) ∨
  (10≤t.pc∧k'=k∧(t'.pc=0∨10≤t'.pc)∧(t'.snap=t.snap∨t'.snap=0)))
def k0 (s:Sta):Int:=s.cells.getD 0 default
theorem cl0 {s:Sta}:cl s 0=k0 s:=rfl
structure Shp (s:Sta) (p:Nat) (s':Sta):Prop where
 ex:∃ t',s'.ths=s.ths.set p t'∧s'.c=s.c∧Tr s.c.cm (k0 s) (k0 s') (s.th p) t'
theorem shp_hi {s s':Sta} {p:Nat} {t':Th} (h1:s'.ths=s.ths.set p t') (h2:s'.c=s.c) (h3:k0 s'=k0 s) (h0:10≤(s.th p).pc) (hop:t'.op=(s.th p).op) (hpc:t'.pc=0∨10≤t'.pc) (hsn:t'.snap=(s.th p).snap∨t'.snap=0):Shp s p s' :=
 ⟨t',h1,h2,hop,.inr (.inr (.inr (.inr (.inr ⟨h0,h3,hpc,hsn⟩))))⟩
theorem put_k0 {s:Sta} {a v:Int} (h:a≠0):k0 (put s a v)=k0 s:=put0 h
theorem swp_k0 {s:Sta} {a o v:Int} (h:a≠0):k0 (swp s a o v)=k0 s:=swp0 h
theorem flt_k0 {s:Sta} {h:Int}:k0 (flt s h)=k0 s:=by unfold k0;rw [flt_cells']
theorem rtr_k0 {s:Sta} {b:Bool}:k0 (rtr s b)=k0 s:=by unfold k0;rw [rtr_cells']
theorem lnkF_k0 {s:Sta} {t:Th}:k0 (lnkF s t)=k0 s:=by unfold k0;rw [lnkF_cells']
theorem shp_set {s s1:Sta} {p:Nat} {t':Th} {q:Int} (h1:s1.ths=s.ths) (h2:s1.c=s.c) (h3:k0 s1=k0 s) (h0:10≤(s.th p).pc) (hop:t'.op=(s.th p).op) (hpc:t'.pc=0∨10≤t'.pc) (hsn:t'.snap=(s.th p).snap∨t'.snap=0):Shp s p {setT s1 p t' with steps:=q} :=
 shp_hi (t':=t') (by show s1.ths.set p t'=_;rw [h1]) h2 h3 h0 hop hpc hsn
end
theorem shpA {s s1:Sta} {p:Nat} {t':Th} {q:Int} (hc:Yp s.c=true) (h0:10≤(s.th p).pc) (h1:s1.ths=s.ths:=by (first | rfl | (simp only [Xqq,Xlm,Xqr,swp_ths,lnkF_ths];done))) (h2:s1.c=s.c:=by (first | rfl | (simp only [put_c',flt_c',rtr_c',swp_c',lnkF_c'];done))) (h3:k0 s1=k0 s:=by (first | rfl | exact flt_k0 | exact rtr_k0 | exact lnkF_k0 | exact put_k0 (by first | exact annB_ne | exact hazB_ne hc (by decide) | exact headB_ne hc | exact fldA_ne hc | exact lnkA_ne hc | decide) | exact swp_k0 (by first | exact annB_ne | exact hazB_ne hc (by decide) | exact headB_ne hc | exact fldA_ne hc | exact lnkA_ne hc | decide) | exact (put_k0 (by first | exact annB_ne | exact hazB_ne hc (by decide) | exact headB_ne hc | exact fldA_ne hc | exact lnkA_ne hc | decide)).trans flt_k0 | exact (put_k0 (by first | exact annB_ne | exact hazB_ne hc (by decide) | exact headB_ne hc | exact fldA_ne hc | exact lnkA_ne hc | decide)).trans lnkF_k0 | exact (swp_k0 (by first | exact annB_ne | exact hazB_ne hc (by decide) | exact headB_ne hc | exact fldA_ne hc | exact lnkA_ne hc | decide)).trans flt_k0 | exact rtr_k0.trans lnkF_k0 | exact rtr_k0.trans flt_k0)) (hop:t'.op=(s.th p).op:=by (first | rfl | exact goOn_op.1 | exact fin_op.1 | (split <;> first | rfl | exact fin_op.1))) (hpc:t'.pc=0∨10≤t'.pc:=by (first | exact .inl rfl | exact .inr goOn_op.2.2 | exact fin_op.2.2 | (refine .inr ?_;dsimp only;(repeat' split) <;> first | decide | omega) | ((repeat' split) <;> first | exact .inl rfl | exact fin_op.2.2 | (refine .inr ?_;dsimp only;decide)))) (hsn:t'.snap=(s.th p).snap∨t'.snap=0:=by (first | exact .inl rfl | exact .inr rfl | exact .inl goOn_op.2.1 | exact .inl fin_op.2.1 | (split <;> first | exact .inl rfl | exact .inl fin_op.2.1))):Shp s p {setT s1 p t' with steps:=q} :=
 shp_set h1 h2 h3 h0 hop hpc hsn
theorem iteF {c:Cf} {b:Prop} [Decidable b] {t:Th} (h:10≤t.pc):(if b then fin c t else t).op=t.op∧(if b then fin c t else t).snap=t.snap∧((if b then fin c t else t).pc=0∨10≤(if b then fin c t else t).pc):=by
 split
 ·exact fin_op
 ·exact ⟨rfl,rfl,.inr h⟩
theorem cs10 {s:Sta} {p:Nat} (hc:Yp s.c=true) (h:(s.th p).pc=10):Shp s p (stepV s p):=by
 unfold stepV
 rw [st10 h]
 unfold sk10
 exact shpA hc (by rw [h];decide)
theorem cs11 {s:Sta} {p:Nat} (hc:Yp s.c=true) (h:(s.th p).pc=11):Shp s p (stepV s p):=by
 unfold stepV
 rw [st11 h]
 unfold sk11
 exact shpA hc (by rw [h];decide)
theorem cs12 {s:Sta} {p:Nat} (hc:Yp s.c=true) (h:(s.th p).pc=12):Shp s p (stepV s p):=by
 unfold stepV
 rw [st12 h]
 unfold sk12
 exact shpA hc (by rw [h];decide)
theorem cs13 {s:Sta} {p:Nat} (hc:Yp s.c=true) (h:(s.th p).pc=13):Shp s p (stepV s p):=by
 unfold stepV
 rw [st13 h]
 unfold sk13
 exact shpA hc (by rw [h];decide)
theorem cs14 {s:Sta} {p:Nat} (hc:Yp s.c=true) (h:(s.th p).pc=14):Shp s p (stepV s p):=by
 unfold stepV
 rw [st14 h]
 unfold sk14
 split
 ·exact shpA hc (by rw [h];decide)
 ·exact shpA hc (by rw [h];decide)
theorem cs15 {s:Sta} {p:Nat} (hc:Yp s.c=true) (h:(s.th p).pc=15):Shp s p (stepV s p):=by
 unfold stepV
 rw [st15 h]
 unfold sk15
 exact shpA hc (by rw [h];decide)
theorem cs16 {s:Sta} {p:Nat} (hc:Yp s.c=true) (h:(s.th p).pc=16):Shp s p (stepV s p):=by
 unfold stepV
 rw [st16 h]
 unfold sk16
 exact shpA hc (by rw [h];decide)
theorem cs17 {s:Sta} {p:Nat} (hc:Yp s.c=true) (h:(s.th p).pc=17):Shp s p (stepV s p):=by
 unfold stepV
 rw [st17 h]
 unfold sk17
 exact shpA hc (by rw [h];decide)
theorem cs18 {s:Sta} {p:Nat} (hc:Yp s.c=true) (h:(s.th p).pc=18):Shp s p (stepV s p):=by
 unfold stepV
 rw [st18 h]
 unfold sk18
 exact shpA hc (by rw [h];decide)
theorem cs19 {s:Sta} {p:Nat} (hc:Yp s.c=true) (h:(s.th p).pc=19):Shp s p (stepV s p):=by
 unfold stepV
 rw [st19 h]
 unfold sk19
 exact shpA hc (by rw [h];decide)
theorem cs20 {s:Sta} {p:Nat} (hc:Yp s.c=true) (h:(s.th p).pc=20):Shp s p (stepV s p):=by
 unfold stepV
 rw [st20 h]
 unfold sk20
 exact shpA hc (by rw [h];decide)
theorem cs21 {s:Sta} {p:Nat} (hc:Yp s.c=true) (h:(s.th p).pc=21):Shp s p (stepV s p):=by
 unfold stepV
 rw [st21 h]
 unfold sk21
 exact shpA hc (by rw [h];decide)
theorem cs30 {s:Sta} {p:Nat} (hc:Yp s.c=true) (h:(s.th p).pc=30):Shp s p (stepV s p):=by
 unfold stepV
 rw [st30 h]
 unfold sk30
 split
 ·exact shpA hc (by rw [h];decide)
 ·exact shpA hc (by rw [h];decide)
theorem cs31 {s:Sta} {p:Nat} (hc:Yp s.c=true) (h:(s.th p).pc=31):Shp s p (stepV s p):=by
 unfold stepV
 rw [st31 h]
 unfold sk31
 split
 ·exact shpA hc (by rw [h];decide)
 ·exact shpA hc (by rw [h];decide)
theorem cs32 {s:Sta} {p:Nat} (hc:Yp s.c=true) (h:(s.th p).pc=32):Shp s p (stepV s p):=by
 unfold stepV
 rw [st32 h]
 unfold sk32
 exact shpA hc (by rw [h];decide)
theorem cs33 {s:Sta} {p:Nat} (hc:Yp s.c=true) (h:(s.th p).pc=33):Shp s p (stepV s p):=by
 unfold stepV
 rw [st33 h]
 unfold sk33
 exact shpA hc (by rw [h];decide)
theorem cs34 {s:Sta} {p:Nat} (hc:Yp s.c=true) (h:(s.th p).pc=34):Shp s p (stepV s p):=by
 unfold stepV
 rw [st34 h]
 unfold sk34
 exact shpA hc (by rw [h];decide)
theorem cs35 {s:Sta} {p:Nat} (hc:Yp s.c=true) (h:(s.th p).pc=35):Shp s p (stepV s p):=by
 unfold stepV
 rw [st35 h]
 unfold sk35
 exact shpA hc (by rw [h];decide)
theorem cs36 {s:Sta} {p:Nat} (hc:Yp s.c=true) (h:(s.th p).pc=36):Shp s p (stepV s p):=by
 unfold stepV
 rw [st36 h]
 unfold sk36
 exact shpA hc (by rw [h];decide)
theorem cs37 {s:Sta} {p:Nat} (hc:Yp s.c=true) (h:(s.th p).pc=37):Shp s p (stepV s p):=by
 unfold stepV
 rw [st37 h]
 unfold sk37
 exact shpA hc (by rw [h];decide)
theorem cs38 {s:Sta} {p:Nat} (hc:Yp s.c=true) (h:(s.th p).pc=38):Shp s p (stepV s p):=by
 unfold stepV
 rw [st38 h]
 unfold sk38
 exact shpA hc (by rw [h];decide)
theorem cs39 {s:Sta} {p:Nat} (hc:Yp s.c=true) (h:(s.th p).pc=39):Shp s p (stepV s p):=by
 unfold stepV
 rw [st39 h]
 unfold sk39
 exact shpA hc (by rw [h];decide)
theorem cs40 {s:Sta} {p:Nat} (hc:Yp s.c=true) (h:(s.th p).pc=40):Shp s p (stepV s p):=by
 unfold stepV
 rw [st40 h]
 unfold sk40
 exact shpA hc (by rw [h];decide)
theorem cs41 {s:Sta} {p:Nat} (hc:Yp s.c=true) (h:(s.th p).pc=41):Shp s p (stepV s p):=by
 unfold stepV
 rw [st41 h]
 unfold sk41
 exact shpA hc (by rw [h];decide)
theorem cs42 {s:Sta} {p:Nat} (hc:Yp s.c=true) (h:(s.th p).pc=42):Shp s p (stepV s p):=by
 unfold stepV
 rw [st42 h]
 unfold sk42
 split
 ·exact shpA hc (by rw [h];decide)
 ·exact shpA hc (by rw [h];decide)
theorem cs43 {s:Sta} {p:Nat} (hc:Yp s.c=true) (h:(s.th p).pc=43):Shp s p (stepV s p):=by
 unfold stepV
 rw [st43 h]
 unfold sk43
 exact shpA hc (by rw [h];decide)
theorem cs44 {s:Sta} {p:Nat} (hc:Yp s.c=true) (h:(s.th p).pc=44):Shp s p (stepV s p):=by
 unfold stepV
 rw [st44 h]
 unfold sk44
 exact shpA hc (by rw [h];decide)
theorem cs45 {s:Sta} {p:Nat} (hc:Yp s.c=true) (h:(s.th p).pc=45):Shp s p (stepV s p):=by
 unfold stepV
 rw [st45 h]
 unfold sk45
 exact shpA hc (by rw [h];decide)
theorem cs46 {s:Sta} {p:Nat} (hc:Yp s.c=true) (h:(s.th p).pc=46):Shp s p (stepV s p):=by
 unfold stepV
 rw [st46 h]
 unfold sk46
 exact shpA hc (by rw [h];decide)
theorem cs47 {s:Sta} {p:Nat} (hc:Yp s.c=true) (h:(s.th p).pc=47):Shp s p (stepV s p):=by
 unfold stepV
 rw [st47 h]
 unfold sk47
 exact shpA hc (by rw [h];decide)
theorem cs50 {s:Sta} {p:Nat} (hc:Yp s.c=true) (h:(s.th p).pc=50):Shp s p (stepV s p):=by
 unfold stepV
 rw [st50 h]
 unfold sk50
 split
 ·refine shp_set rfl rfl rfl (by rw [h];decide) rfl (.inr ?_) (.inl rfl)
  show 10≤(s.th p).pc
  rw [h];decide
 ·have hi:(10:Int)≤60:=by decide
  exact shp_set rfl rfl rfl (by rw [h];decide) (iteF hi).1 (iteF hi).2.2 (.inl (iteF hi).2.1)
theorem cs60 {s:Sta} {p:Nat} (hc:Yp s.c=true) (h:(s.th p).pc=60):Shp s p (stepV s p):=by
 unfold stepV
 rw [st60 h]
 unfold sk60
 exact shpA hc (by rw [h];decide)
theorem cs61 {s:Sta} {p:Nat} (hc:Yp s.c=true) (h:(s.th p).pc=61):Shp s p (stepV s p):=by
 unfold stepV
 rw [st61 h]
 unfold sk61
 split
 ·exact shpA hc (by rw [h];decide)
 ·exact shpA hc (by rw [h];decide)
theorem cs62 {s:Sta} {p:Nat} (hc:Yp s.c=true) (h:(s.th p).pc=62):Shp s p (stepV s p):=by
 unfold stepV
 rw [st62 h]
 unfold sk62
 exact shpA hc (by rw [h];decide)
theorem cs63 {s:Sta} {p:Nat} (hc:Yp s.c=true) (h:(s.th p).pc=63):Shp s p (stepV s p):=by
 unfold stepV
 rw [st63 h]
 unfold sk63
 exact shpA hc (by rw [h];decide)
theorem cs70 {s:Sta} {p:Nat} (hc:Yp s.c=true) (h:(s.th p).pc=70):Shp s p (stepV s p):=by
 unfold stepV
 rw [st70 h]
 unfold sk70
 split
 ·refine shp_set rfl rfl rfl (by rw [h];decide) rfl (.inr ?_) (.inl rfl)
  show 10≤(s.th p).pc
  rw [h];decide
 ·exact shpA hc (by rw [h];decide)
theorem cs80 {s:Sta} {p:Nat} (hc:Yp s.c=true) (h:(s.th p).pc=80):Shp s p (stepV s p):=by
 unfold stepV
 rw [st80 h]
 unfold sk80
 exact shpA hc (by rw [h];decide)
theorem Shp.of {s s1:Sta} {p:Nat} {t':Th} {q:Int} (h1:s1.ths=s.ths) (h2:s1.c=s.c) (hT:Tr s.c.cm (k0 s) (k0 s1) (s.th p) t'):Shp s p {setT s1 p t' with steps:=q} :=
 ⟨t',by show s1.ths.set p t'=_;rw [h1],h2,hT⟩
theorem cs1 {s:Sta} {p:Nat} (hc:Yp s.c=true) (h:(s.th p).pc=1):Shp s p (stepV s p):=by
 unfold stepV
 rw [st1 h]
 unfold sk1
 refine Shp.of rfl rfl ⟨rfl,.inl ⟨h,rfl,rfl,?_⟩⟩
 by_cases hk:cl s 0≥s.c.cm
 ·exact .inl ⟨hk,by show (if cl s 0≥s.c.cm then (5:Int) else 2)=5;rw [if_pos hk]⟩
 ·exact .inr ⟨by rw [cl0] at hk;omega,by show (if cl s 0≥s.c.cm then (5:Int) else 2)=2;rw [if_neg hk],rfl⟩
theorem cs2 {s:Sta} {p:Nat} (hc:Yp s.c=true) (h:(s.th p).pc=2):Shp s p (stepV s p):=by
 unfold stepV
 rw [st2 h]
 unfold sk2
 exact Shp.of Xqq put_c' ⟨rfl,.inr (.inl ⟨h,put_k0 annB_ne,rfl,rfl,rfl⟩)⟩
theorem cs3 {s:Sta} {p:Nat} (hc:Yp s.c=true) (h:(s.th p).pc=3):Shp s p (stepV s p):=by
 unfold stepV
 rw [st3 h]
 unfold sk3
 refine Shp.of Xqr rtr_c' ⟨rfl,.inr (.inr (.inl ⟨h,rtr_k0,rfl,?_⟩))⟩
 by_cases hk:cl s 0=(s.th p).seen
 ·exact .inl ⟨by show (if cl s 0=(s.th p).seen then (4:Int) else 1)=4;rw [if_pos hk],rfl⟩
 ·exact .inr (by show (if cl s 0=(s.th p).seen then (4:Int) else 1)=1;rw [if_neg hk])
theorem cs4 {s:Sta} {p:Nat} (hc:Yp s.c=true) (hn:0<s.cells.length) (h:(s.th p).pc=4):Shp s p (stepV s p):=by
 unfold stepV
 rw [st4 h]
 unfold sk4
 refine Shp.of swp_ths swp_c' ⟨rfl,.inr (.inr (.inr (.inl ⟨h,rfl,rfl,rfl,?_⟩)))⟩
 unfold swp swB
 by_cases hk:cl s 0=(s.th p).seen
 ·refine .inl ⟨hk,?_⟩
  rw [if_pos (decide_eq_true ⟨Int.le_refl _,by omega,hk⟩)]
  unfold put k0
  rw [if_pos ⟨Int.le_refl _,by omega⟩]
  simp [List.getD_eq_getElem?_getD,hn]
 ·refine .inr ⟨hk,?_⟩
  rw [if_neg (fun h=>hk (of_decide_eq_true h).2.2)]
theorem cs5 {s:Sta} {p:Nat} (hc:Yp s.c=true) (h:(s.th p).pc=5):Shp s p (stepV s p):=by
 unfold stepV
 rw [st5 h]
 unfold sk5
 exact Shp.of Xqq put_c' ⟨rfl,.inr (.inr (.inr (.inr (.inl ⟨h,put_k0 annB_ne,rfl,rfl,rfl⟩))))⟩
noncomputable section
def TK (cm k:Int) (t:Th):Prop:=((t.pc=2∨t.pc=3∨t.pc=4)→t.seen<cm∧t.seen≤k)∧(t.pc=5→k=cm)∧t.snap<k∧(t.op.k=1→t.pc≤5)∧(1≤t.pc∧t.pc≤5→t.op.k=1)
theorem TK.mono {cm k k':Int} {t:Th} (H:TK cm k t) (h:k≤k') (h2:k'≤cm):TK cm k' t:=by
 obtain ⟨h1,h3,h4,h5,h6⟩:=H
 exact ⟨fun h=>by have:=h1 h;omega,fun h=>by have:=h3 h;omega,by omega,h5,h6⟩
theorem TK.step {cm k k':Int} {t t':Th} (H:TK cm k t) (T:Tr cm k k' t t') (h0:1≤k) (h1:k≤cm):k≤k'∧k'≤cm∧TK cm k' t' ∧
 (k'≠k→t.op.k=1∧t'.pc=0∧t'.res.c=0∧k'=k+1)∧(t'.pc=0→t.op.k=1→t'.res.c=5→k'=cm):=by
 obtain ⟨a1,a2,a3,a4,a5⟩:=H
 obtain ⟨ho,T⟩:=T
 unfold TK
 rw [ho]
 rcases T with ⟨b1,b2,b3,b4⟩ | ⟨b1,b2,b3,b4,b5⟩ | ⟨b1,b2,b3,b4⟩ | ⟨b1,b2,b3,b4,b5⟩ | ⟨b1,b2,b3,b4,b5⟩ | ⟨b1,b2,b3,b4⟩
 ·subst b2
  have:=a5 (by omega)
  rcases b4 with ⟨c1,c2⟩ | ⟨c1,c2,c3⟩
  ·refine ⟨Int.le_refl _,h1,⟨fun h=>by omega,fun _=>by omega,by omega,fun _=>by omega,fun _=>this⟩,fun h=>absurd rfl h,fun h=>by omega⟩
  ·refine ⟨Int.le_refl _,h1,⟨fun h=>by omega,fun _=>by omega,by omega,fun _=>by omega,fun _=>this⟩,fun h=>absurd rfl h,fun h=>by omega⟩
 ·subst b2
  have:=a5 (by omega)
  have:=a1 (by omega)
  refine ⟨Int.le_refl _,h1,⟨fun h=>by omega,fun _=>by omega,by omega,fun _=>by omega,fun _=>by omega⟩,fun h=>absurd rfl h,fun h=>by omega⟩
 ·subst b2
  have:=a5 (by omega)
  have:=a1 (by omega)
  rcases b4 with ⟨c1,c2⟩ | c1
  ·refine ⟨Int.le_refl _,h1,⟨fun h=>by omega,fun _=>by omega,by omega,fun _=>by omega,fun _=>by omega⟩,fun h=>absurd rfl h,fun h=>by omega⟩
  ·refine ⟨Int.le_refl _,h1,⟨fun h=>by omega,fun _=>by omega,by omega,fun _=>by omega,fun _=>by omega⟩,fun h=>absurd rfl h,fun h=>by omega⟩
 ·have o1:=a5 (by omega)
  have:=a1 (by omega)
  have hr:t'.res.c=0:=by rw [b3]
  rcases b5 with ⟨c1,c2⟩ | ⟨c1,c2⟩
  ·refine ⟨by omega,by omega,⟨fun h=>by omega,fun _=>by omega,by omega,fun _=>by omega,fun _=>by omega⟩,fun _=>⟨o1,b2,hr,by omega⟩,fun _ _ h=>by omega⟩
  ·refine ⟨by omega,by omega,⟨fun h=>by omega,fun _=>by omega,by omega,fun _=>by omega,fun _=>by omega⟩,fun h=>absurd c2 h,fun _ _ h=>by omega⟩
 ·subst b2
  have:=a5 (by omega)
  have:=a2 b1
  refine ⟨Int.le_refl _,h1,⟨fun h=>by omega,fun _=>by omega,by omega,fun _=>by omega,fun _=>by omega⟩,fun h=>absurd rfl h,fun _ _ _=>this⟩
 ·subst b2
  have hk:t.op.k≠1:=fun h=>by have:=a4 h;omega
  refine ⟨Int.le_refl _,h1,⟨fun h=>by omega,fun h=>by omega,by rcases b4 with h | h <;> omega,fun h=>absurd h hk,fun h=>by omega⟩,fun h=>absurd rfl h,fun _ h=>absurd h hk⟩
def cE (c:Int) (e:Ev):Bool:=decide (e.op.k=1)&&(decide (0≤e.en)&&decide (e.res.c=c))
def cntC (c:Int) (l:List Ev):Nat:=(l.filter (cE c)).length
theorem cnt_set {f:Ev→Bool} {e:Ev}:∀ {l:List Ev} {i:Nat},i<l.length→((l.set i e).filter f).length+(if f (l.getD i default)=true then 1 else 0)=(l.filter f).length+(if f e=true then 1 else 0)
 | [],i,h=>by simp at h
 | a::l,0,_=>by
   rw [List.set_cons_zero]
   show _+(if f a=true then 1 else 0)=_
   rw [List.filter_cons,List.filter_cons]
   split <;> split <;> simp_all <;> omega
 | a::l,i+1,h=>by
   have:=cnt_set (f:=f) (e:=e) (l:=l) (i:=i) (by simpa using h)
   rw [List.set_cons_succ]
   show _+(if f (l.getD i default)=true then 1 else 0)=_
   rw [List.filter_cons,List.filter_cons]
   split <;> (try simp only [List.length_cons]) <;> omega
def lastAt (evs:List Ev) (p:Int):Nat→Option Ev
 | 0=>none
 | i+1=>if (evs.getD i default).th=p then some (evs.getD i default) else lastAt evs p i
theorem close_cnt {evs:List Ev} {p time c:Int} {r:Rs} {e:Ev} (ht:0≤time):∀ {i:Nat},i≤evs.length→lastAt evs p i=some e→e.en=-1 →
 cntC c (Zk evs p time r i)=cntC c evs+(if e.op.k=1∧r.c=c then 1 else 0)
 | 0,_,h,_=>by simp [lastAt] at h
 | i+1,hi,h,he=>by
   unfold lastAt at h
   unfold Zk
   split at h
   ·rename_i hp
    rw [if_pos hp]
    simp only [Option.some.injEq] at h
    have:=cnt_set (f:=cE c) (e:={evs.getD i default with en:=time,res:=r}) (l:=evs) (i:=i) hi
    rw [h] at this
    have f1:cE c e=false:=by unfold cE;rw [decide_eq_false (show ¬0≤e.en by omega)];simp
    rw [f1] at this
    have f2:cE c {e with en:=time,res:=r}=decide (e.op.k=1∧r.c=c):=by
     unfold cE
     show (decide (e.op.k=1)&&(decide (0≤time)&&decide (r.c=c)))=_
     rw [decide_eq_true ht]
     by_cases x:e.op.k=1 <;> by_cases y:r.c=c <;> simp [x,y]
    rw [f2] at this
    unfold cntC
    rw [h]
    simp only [Bool.false_eq_true,if_false,Nat.add_zero,decide_eq_true_eq] at this
    exact this
   ·rename_i hp
    rw [if_neg hp]
    exact close_cnt ht (by omega) h he
theorem last_set {evs:List Ev} {q:Int} {j:Nat} {e:Ev} (h1:(evs.getD j default).th≠q) (h2:e.th≠q) (hj:j<evs.length):∀ {i:Nat},lastAt (evs.set j e) q i=lastAt evs q i
 | 0=>rfl
 | i+1=>by
   unfold lastAt
   by_cases hij:i=j
   ·subst hij
    have e1:(evs.set i e).getD i default=e:=by simp [List.getD_eq_getElem?_getD,hj]
    rw [e1,if_neg h2,if_neg h1]
    exact last_set h1 h2 hj
   ·have e1:(evs.set j e).getD i default=evs.getD i default:=by
     simp only [List.getD_eq_getElem?_getD,List.getElem?_set]
     rw [if_neg (fun h=>hij h.symm)]
    rw [e1,last_set h1 h2 hj]
theorem last_close {evs:List Ev} {p q time:Int} {r:Rs} (hpq:p≠q) {n:Nat}:∀ {i:Nat},i≤evs.length→lastAt (Zk evs p time r i) q n=lastAt evs q n
 | 0,_=>rfl
 | i+1,hi=>by
   unfold Zk
   split
   ·rename_i hp
    exact last_set (by rw [hp];exact hpq) (by show (evs.getD i default).th≠q;rw [hp];exact hpq) hi
   ·exact last_close hpq (by omega)
theorem last_app {evs:List Ev} {q:Int} {e:Ev}:∀ {i:Nat},i≤evs.length→lastAt (evs++[e]) q i=lastAt evs q i
 | 0,_=>rfl
 | i+1,hi=>by
   unfold lastAt
   have e1:(evs++[e]).getD i default=evs.getD i default:=by
    simp only [List.getD_eq_getElem?_getD]
    rw [List.getElem?_append_left hi]
   rw [e1,last_app (by omega)]
theorem last_app1 {evs:List Ev} {q:Int} {e:Ev}:lastAt (evs++[e]) q (evs++[e]).length=if e.th=q then some e else lastAt evs q evs.length:=by
 rw [List.length_append,List.length_singleton]
 show (if ((evs++[e]).getD evs.length default).th=q then some ((evs++[e]).getD evs.length default) else lastAt (evs++[e]) q evs.length)=_
 have e1:(evs++[e]).getD evs.length default=e:=by simp [List.getD_eq_getElem?_getD]
 rw [e1,last_app (Nat.le_refl _)]
theorem cntC_app {c:Int} {evs:List Ev} {e:Ev} (h:e.en=-1):cntC c (evs++[e])=cntC c evs:=by
 unfold cntC
 have f1:cE c e=false:=by unfold cE;rw [decide_eq_false (show ¬0≤e.en by omega)];simp
 rw [List.filter_append,List.filter_cons,f1]
 simp
end
noncomputable section
theorem step_shp {s:Sta} {p:Nat} {ns:Nat→Nat} (H:SI s ns) (hp:p<s.ths.length) (h0:(s.th p).pc≠0):Shp s p (stepV s p):=by
 have hc:=H.cv.cf
 have hb:=Xm hc
 have hn:0<s.cells.length:=by have:=H.cv.lc;omega
 have hm:=X0d (H.tv p hp).1.pcs
 simp only [pcL,List.mem_cons,List.not_mem_nil,or_false] at hm
 rcases hm with h | h | h | h | h | h | h | h | h | h | h | h | h | h | h | h | h | h | h | h | h | h | h | h | h | h | h | h | h | h | h | h | h | h | h | h | h | h | h | h | h | h | h
 all_goals first | exact absurd h h0 | exact cs1 hc h | exact cs2 hc h | exact cs3 hc h | exact cs4 hc hn h | exact cs5 hc h | exact cs10 hc h | exact cs11 hc h | exact cs12 hc h | exact cs13 hc h | exact cs14 hc h | exact cs15 hc h | exact cs16 hc h | exact cs17 hc h | exact cs18 hc h | exact cs19 hc h | exact cs20 hc h | exact cs21 hc h | exact cs30 hc h | exact cs31 hc h | exact cs32 hc h | exact cs33 hc h | exact cs34 hc h | exact cs35 hc h | exact cs36 hc h | exact cs37 hc h | exact cs38 hc h | exact cs39 hc h | exact cs40 hc h | exact cs41 hc h | exact cs42 hc h | exact cs43 hc h | exact cs44 hc h | exact cs45 hc h | exact cs46 hc h | exact cs47 hc h | exact cs50 hc h | exact cs60 hc h | exact cs61 hc h | exact cs62 hc h | exact cs63 hc h | exact cs70 hc h | exact cs80 hc h
structure CK (m:Mac):Prop where
 tk:∀ p,p<m.s.ths.length→TK m.s.c.cm (k0 m.s) (m.s.th p)
 n0:k0 m.s≤1+(cntC 0 m.evs:Int)
 n5:0<cntC 5 m.evs→k0 m.s=m.s.c.cm
 op:∀ p,p<m.s.ths.length→(m.s.th p).pc≠0→∃ e,lastAt m.evs (p:Int) m.evs.length=some e∧e.en=-1∧e.op=(m.s.th p).op
theorem thq_set {s s':Sta} {p q:Nat} {t:Th} (h:s'.ths=s.ths.set p t) (hp:p<s.ths.length):s'.th q=if q=p then t else s.th q:=by
 unfold Sta.th
 rw [h]
 simp only [List.getD_eq_getElem?_getD,List.getElem?_set]
 by_cases e:p=q
 ·subst e;simp [hp]
 ·rw [if_neg e,if_neg (fun h=>e h.symm)]
theorem CK.run {m:Mac} {p:Nat} (M:MI m) (C:CK m) (hp:p<m.s.ths.length) (h0:(m.s.th p).pc≠0):CK (Um m p):=by
 obtain ⟨t',e1,e2,T⟩:=(step_shp M.si hp h0).ex
 have hk:=M.si.cv.ck
 rw [cl0] at hk
 obtain ⟨s1,s2,s3,s4,s5⟩:=(C.tk p hp).step T hk.1 hk.2
 have hth:∀ q,(stepV m.s p).th q=if q=p then t' else m.s.th q:=fun q=>thq_set e1 hp
 have hpp:(stepV m.s p).th p=t':=by rw [hth,if_pos rfl]
 obtain ⟨e,l1,l2,l3⟩:=C.op p hp h0
 have hto:=T.1
 have hlen:(stepV m.s p).ths.length=m.s.ths.length:=by rw [e1,List.length_set]
 unfold Um
 rw [if_pos h0,hpp]
 refine ⟨fun q hq=>?_,?_,?_,fun q hq hq0=>?_⟩
 ·dsimp only at hq ⊢
  rw [hth q,e2]
  split
  ·exact s3
  ·rename_i hne
   exact (C.tk q (by omega)).mono s1 s2
 ·dsimp only
  by_cases h:t'.pc=0
  ·rw [if_pos h]
   unfold Xj6
   have hcn:=close_cnt (evs:=m.evs) (p:=(p:Int)) (c:=0) (r:=t'.res) M.tm.1 (Nat.le_refl _) l1 l2
   rw [hcn,l3]
   have:=C.n0
   by_cases hne:k0 (stepV m.s p)=k0 m.s
   ·split <;> omega
   ·obtain ⟨q1,q2,q3,q4⟩:=s4 hne
    rw [if_pos ⟨q1,q3⟩]
    omega
  ·rw [if_neg h]
   have:=C.n0
   by_cases hne:k0 (stepV m.s p)=k0 m.s
   ·omega
   ·exact absurd (s4 hne).2.1 h
 ·dsimp only
  rw [e2]
  intro hpos
  by_cases h:t'.pc=0
  ·rw [if_pos h] at hpos
   unfold Xj6 at hpos
   have hcn:=close_cnt (evs:=m.evs) (p:=(p:Int)) (c:=5) (r:=t'.res) M.tm.1 (Nat.le_refl _) l1 l2
   rw [hcn,l3] at hpos
   by_cases hh:(m.s.th p).op.k=1∧t'.res.c=5
   ·exact s5 h hh.1 hh.2
   ·rw [if_neg hh] at hpos
    have:=C.n5 hpos
    omega
  ·rw [if_neg h] at hpos
   have:=C.n5 hpos
   omega
 ·dsimp only at hq hq0 ⊢
  rw [hth q] at hq0 ⊢
  by_cases hqp:q=p
  ·subst hqp
   rw [if_pos rfl] at hq0 ⊢
   rw [if_neg hq0]
   exact ⟨e,l1,l2,l3.trans hto.symm⟩
  ·rw [if_neg hqp] at hq0 ⊢
   obtain ⟨e',f1,f2,f3⟩:=C.op q (by omega) hq0
   refine ⟨e',?_,f2,f3⟩
   split
   ·rw [Xm4]
    unfold Xj6
    rw [last_close (by omega) (Nat.le_refl _)]
    exact f1
   ·exact f1
theorem refV_ne {c:Cf} {t:Th} {o:Op3}:refV c t o≠5:=by
 unfold refV
 split
 ·decide
 ·split
  ·decide
  ·split <;> decide
theorem startT_tk {s:Sta} {cm k:Int} {t:Th} {o:Op3} (H:TK cm k t):TK cm k (V8 s t o)∧(V8 s t o).op=o∧((V8 s t o).pc≠0→refV s.c t o=0):=by
 have hs:=H.2.2.1
 have base:∀ t':Th,t'.snap=t.snap→t'.op=o→(t'.pc=0∨(t'.pc=1∧o.k=1)∨(10≤t'.pc∧o.k≠1))→TK cm k t':=fun t' h1 h2 h3=>by
  unfold TK
  rw [h1,h2]
  refine ⟨fun h=>by omega,fun h=>by omega,hs,fun h=>by omega,fun h=>by omega⟩
 unfold V8
 split
 ·rename_i hr
  refine ⟨?_,?_,fun _=>hr⟩
  ·unfold begT
   dsimp only
   split
   ·exact base _ rfl rfl (.inr (.inl ⟨rfl,by assumption⟩))
   ·rename_i h1
    split
    ·exact base _ rfl rfl (.inr (.inr ⟨by show (10:Int)≤10;decide,h1⟩))
    ·split
     ·exact base _ rfl rfl (.inr (.inr ⟨by show (10:Int)≤80;decide,h1⟩))
     ·split
      ·exact base _ rfl rfl (.inr (.inr ⟨by show (10:Int)≤50;decide,h1⟩))
      ·split
       ·exact base _ rfl rfl (.inr (.inr ⟨by show (10:Int)≤30;decide,h1⟩))
       ·exact base _ rfl rfl (.inr (.inr ⟨by show (10:Int)≤32;decide,h1⟩))
  ·unfold begT
   dsimp only
   repeat' split
   all_goals rfl
 ·exact ⟨base _ rfl rfl (.inl rfl),rfl,fun h=>absurd rfl h⟩
theorem CK.start {m:Mac} {p:Nat} (M:MI m) (C:CK m) (hp:p<m.s.ths.length) (h0:¬(m.s.th p).pc≠0):CK (Um m p):=by
 unfold Um
 rw [if_neg h0]
 generalize opAt m p=o
 obtain ⟨a1,a2,a3⟩:=startT_tk (s:=m.s) (o:=o) (C.tk p hp)
 have hth:∀ q,(Y5 m.s p o).th q=if q=p then V8 m.s (m.s.th p) o else m.s.th q:=fun q=>thq_set (s:=m.s) rfl hp
 have hlen:(Y5 m.s p o).ths.length=m.s.ths.length:=by unfold Y5;exact List.length_set
 have hl1:=last_app1 (evs:=m.evs) (q:=(p:Int)) (e:=⟨(p:Int),o,⟨0,0⟩,m.time,-1⟩)
 rw [if_pos rfl] at hl1
 have hcc:∀ c:Int,cntC c (m.evs++[⟨(p:Int),o,⟨0,0⟩,m.time,-1⟩])=cntC c m.evs:=fun c=>cntC_app rfl
 have hcl:=fun c:Int=>close_cnt (evs:=m.evs++[⟨(p:Int),o,⟨0,0⟩,m.time,-1⟩]) (p:=(p:Int)) (c:=c) (r:=⟨refV m.s.c (m.s.th p) o,0⟩) M.tm.1 (Nat.le_refl _) hl1 rfl
 refine ⟨fun q hq=>?_,?_,?_,fun q hq hq0=>?_⟩
 ·dsimp only at hq ⊢
  rw [hth q]
  split
  ·exact a1
  ·exact C.tk q (by omega)
 ·dsimp only
  show k0 m.s≤_
  have:=C.n0
  split
  ·rw [hcc];exact this
  ·unfold Xj6
   rw [hcl,hcc]
   omega
 ·dsimp only
  show _→k0 m.s=m.s.c.cm
  intro hpos
  apply C.n5
  split at hpos
  ·rw [hcc] at hpos;exact hpos
  ·unfold Xj6 at hpos
   rw [hcl,hcc,if_neg (fun h=>refV_ne h.2)] at hpos
   exact hpos
 ·dsimp only at hq hq0 ⊢
  rw [hth q] at hq0 ⊢
  by_cases hqp:q=p
  ·subst hqp
   rw [if_pos rfl] at hq0 ⊢
   rw [if_pos (a3 hq0)]
   exact ⟨_,hl1,rfl,a2.symm⟩
  ·rw [if_neg hqp] at hq0 ⊢
   obtain ⟨e',f1,f2,f3⟩:=C.op q (by omega) hq0
   have hl2:=last_app1 (evs:=m.evs) (q:=(q:Int)) (e:=⟨(p:Int),o,⟨0,0⟩,m.time,-1⟩)
   rw [if_neg (show ¬((p:Int)=(q:Int)) by omega),f1] at hl2
   refine ⟨e',?_,f2,f3⟩
   split
   ·exact hl2
   ·rw [Xm4]
    unfold Xj6
    rw [last_close (by omega) (Nat.le_refl _)]
    exact hl2
theorem CK.pick {m:Mac} {p:Nat} (M:MI m) (C:CK m) (hp:p<m.s.ths.length):CK (Um m p):=by
 by_cases h0:(m.s.th p).pc≠0
 ·exact C.run M hp h0
 ·exact C.start M hp h0
theorem CK.new {c:Cf} {ps:List (List Op3)} (hc:Yp c=true):CK (Uf c ps):=by
 have hb:=Xm hc
 have hk:k0 (Za c)=1:=by
  have hcc:=Xig hc
  unfold k0 Za
  simp only [List.getD_eq_getElem?_getD,List.getElem?_set]
  rw [if_pos trivial,if_pos (by rw [List.length_replicate];omega)]
  rfl
 refine ⟨fun p hp=>?_,?_,?_,fun p hp h=>?_⟩
 ·have e:(Uf c ps).s.th p=th0:=by
   show (List.replicate c.th.toNat th0).getD p default=th0
   have hp':p<c.th.toNat:=by simpa [Uf,Za] using hp
   simp [List.getD_eq_getElem?_getD,hp']
  rw [e]
  show TK c.cm (k0 (Za c)) th0
  rw [hk]
  exact ⟨fun h=>by rcases h with h | h | h <;> exact absurd h (by decide),fun h=>absurd h (by decide),by decide,fun h=>absurd h (by decide),fun h=>absurd h.1 (by decide)⟩
 ·show k0 (Za c)≤_
  rw [hk]
  omega
 ·intro h
  exact absurd h (by show ¬0<cntC 5 [];decide)
 ·have e:(Uf c ps).s.th p=th0:=by
   show (List.replicate c.th.toNat th0).getD p default=th0
   have hp':p<c.th.toNat:=by simpa [Uf,Za] using hp
   simp [List.getD_eq_getElem?_getD,hp']
  rw [e] at h
  exact absurd rfl h
end
end Go.Proofs.YtbploohjimpcaaaGreat.A
