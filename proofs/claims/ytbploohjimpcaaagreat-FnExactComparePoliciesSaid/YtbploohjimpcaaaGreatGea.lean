/- What the program's functions answer (Gea): no condition. -/
import Derived.Test.YtbploohjimpcaaaGreatGe
import Derived.Test.YtbploohjimpcaaaGreatGd
set_option linter.unusedVariables false
set_option linter.unusedSimpArgs false
namespace Go.Proofs.YtbploohjimpcaaaGreat.A
open Go Go.Abs
set_option maxRecDepth 100000
abbrev prvB (t:Th):Bool:=inB t.pc 32 42&&(t.node !=0)
theorem Q7 {n:Nat} {t:Th}:callP cfg (n+2) 136 [.agg (thA t)]=some ⟨.bool (prvB t),[]⟩:=by
 rw [Xa]
 have fq1:=@Xk
 refine goS ?_
 clear fq1
 repeat' (refine Y9 (fun _=>?_) (fun _=>?_))
 all_goals (conv=>lhs;whnf)
 all_goals (refine okB ?_;unfold prvB inB;first | (simp_all;done) | (rw [Bool.eq_iff_iff];simp_all;done) | (simp_all;intros;omega))
theorem Xas {n:Nat} {t:Th}:callP cfg (n+2) 135 [.agg (thA t)]=some ⟨.bool (inB t.pc 32 42),[]⟩:=by
 rw [Xa]
 have fq1:=@X1
 refine go ?_
 clear fq1
 try with_reducible rfl
theorem U0 {n:Nat} {s:Sta} {h:Int} (hr:s.room) (hi:s.i64) (hh:I64 h):callP cfg (n+7) 200 [.agg (staA s),.int .i64 h]=some ⟨.bool (staB s&&curB s h),[]⟩:=by
 rw [Xa]
 unfold curB
 by_cases hs:staB s=true
 ·obtain ⟨hc,m1,m2,m3,_⟩:=Zx hs
  rw [hs,Bool.true_and]
  by_cases h1:isH h=true
  ·by_cases h2:idxB h<s.c.cap
   ·have hn:Y4 s.c h=true:=by unfold Y4;rw [h1];exact decide_eq_true h2
    have e0:decide (idxB h<s.c.cap)=true:=decide_eq_true h2
    have hx:=Y3 hn
    have hg:(idxB h).toNat<s.gens.length:=by omega
    have e1:decide (0≤idxB h)=true:=decide_eq_true hx.1
    have e2:decide (idxB h<((s.gens.map iA).length:Int))=true:=by rw [List.length_map];exact decide_eq_true (by omega)
    have r1:=Xe (f:=iA) hg
    rw [hn,Bool.true_and]
    have fq1:=fun {n:Nat}=>Xr (n:=n) hr hi
    have fq2:=fun {n:Nat}=>Yj (n:=n) hh
    have fq3:=fun {n:Nat}=>X8 (n:=n) hh
    have fq4:=fun {n:Nat}=>Xbr (n:=n) hh
    refine go ?_
    clear fq1 fq2 fq3 fq4
    try with_reducible rfl
   ·have e0:decide (idxB h<s.c.cap)=false:=decide_eq_false h2
    have hn:Y4 s.c h=false:=by unfold Y4;rw [h1,e0];rfl
    rw [hn]
    have fq1:=fun {n:Nat}=>Xr (n:=n) hr hi
    have fq2:=fun {n:Nat}=>Yj (n:=n) hh
    have fq3:=fun {n:Nat}=>X8 (n:=n) hh
    refine go ?_
    clear fq1 fq2 fq3
    try with_reducible rfl
    rfl
  ·replace h1:isH h=false:=by simpa only [Bool.not_eq_true] using h1
   have hn:Y4 s.c h=false:=by unfold Y4;rw [h1];rfl
   rw [hn]
   have fq1:=fun {n:Nat}=>Xr (n:=n) hr hi
   have fq2:=fun {n:Nat}=>Yj (n:=n) hh
   refine go ?_
   clear fq1 fq2
   try with_reducible rfl
   rfl
 ·replace hs:staB s=false:=by simpa only [Bool.not_eq_true] using hs
  rw [hs]
  have fq1:=fun {n:Nat}=>Xr (n:=n) hr hi
  refine go ?_
  clear fq1
  try with_reducible rfl
  rfl
theorem Xj3 {n:Nat}:callP cfg (n+1) 282 []=some ⟨.int .i64 1,[]⟩:=by
 rw [Xa]
 refine go ?_
 try with_reducible rfl
theorem W8 {n:Nat} {s:Sta} (hr:s.room) (hi:s.i64):callP cfg (n+7) 205 [.agg (staA s)]=some ⟨.int .i64 (Xpb s),[]⟩:=by
 rw [Xa]
 unfold Xpb
 by_cases hs:staB s=true
 ·obtain ⟨hc,m1,m2,m3,_⟩:=Zx hs
  have hb:=Xm hc
  have hcc:=Xig hc
  have c1:(s.cells.map iA)[(1:Int).toNat]?=some (iA (cl s 1)):=V6 (by omega)
  have k1:decide ((1:Int)<((s.cells.map iA).length:Int))=true:=Xal (by omega)
  have z1:decide ((0:Int)≤1)=true:=rfl
  rw [if_pos hs]
  have r9:=c1
  have fq1:=fun {n:Nat}=>Xr (n:=n) hr hi
  have fq2:=@Xj3
  refine go ?_
  clear r9 fq1 fq2
  try with_reducible rfl
 ·replace hs:staB s=false:=by simpa only [Bool.not_eq_true] using hs
  rw [if_neg (by rw [hs];simp)]
  have fq1:=fun {n:Nat}=>Xr (n:=n) hr hi
  refine go ?_
  clear fq1
  try with_reducible rfl
theorem Xnu {n:Nat} {s:Sta} {k:Int} (hr:s.room) (hi:s.i64) (hk:0≤k∧k<4):callP cfg (n+7) 199 [.agg (staA s),.int .i64 k]=some ⟨.int .i64 (Xv1 s k),[]⟩:=by
 rw [Xa]
 unfold Xv1
 by_cases hs:staB s=true
 ·obtain ⟨hc,m1,m2,m3,_⟩:=Zx hs
  have hb:=Xm hc
  have wk:IntKind.i64.wrap (s.c.keys - 1)=s.c.keys - 1:=Xc (by omega) (by omega)
  by_cases hx:k≤s.c.keys - 1
  ·have e0:(decide (0≤k)&&decide (k≤IntKind.i64.wrap (s.c.keys - 1)))=true:=by rw [wk];simp;omega
   have hh:0≤X2 s.c k∧X2 s.c k<(s.cells.length:Int):=by
    rw [m1,Xig hc];unfold X2;rw [if_pos ⟨hc,hk.1,hx⟩];omega
   have e2:decide (0≤X2 s.c k)=true:=decide_eq_true hh.1
   have e3:=Xal hh
   have r1:=V6 hh
   rw [if_pos ⟨hs,hx⟩]
   have fq1:=fun {n:Nat}=>Xr (n:=n) hr hi
   have fq2:=@Xk
   have fq3:=fun {n:Nat} {c:Cf}=>Ui (n:=n) (c:=c) hk
   refine go ?_
   clear fq1 fq2 fq3
   try with_reducible rfl
  ·have e0:(decide (0≤k)&&decide (k≤IntKind.i64.wrap (s.c.keys - 1)))=false:=by rw [wk];simp;omega
   rw [if_neg (fun h=>hx h.2)]
   have fq1:=fun {n:Nat}=>Xr (n:=n) hr hi
   have fq2:=@Xk
   refine go ?_
   clear fq1 fq2
   try with_reducible rfl
 ·replace hs:staB s=false:=by simpa only [Bool.not_eq_true] using hs
  rw [if_neg (fun h=>by rw [hs] at h;simp at h)]
  have fq1:=fun {n:Nat}=>Xr (n:=n) hr hi
  refine go ?_
  clear fq1
  try with_reducible rfl
theorem Xv2 {s:Sta} {h f:Int} (hs:staB s=true) (hi:s.i64) (hn:Y4 s.c h=true) (hf:0≤f∧f≤2):I64 (fldV s h f):=by
 obtain ⟨hc,m1,m2,m3,_⟩:=Zx hs
 have hh:=Xuc hc (Y3 hn) hf
 rw [←m1] at hh
 exact hi.1 _ (Xdj hh)
noncomputable def Xso (s:Sta) (h f:Int):Int:=if staB s=true∧curB s h=true then fldV s h f else 0
def Ub (s:Sta):Nat→Int→List Int
 | 0,_=>[]
 | n+1,h=>if curB s h=true then h::Ub s n (unmk (fldV s h 2)) else []
theorem okT2 {a a':Int} {c c':Bool} (h1:a=a') (h3:c=c'):some (⟨.tup [.int .i64 a,.bool c],[]⟩:Res)=some ⟨.tup [.int .i64 a',.bool c'],[]⟩:=by rw [h1,h3]
theorem Xfu {s:Sta} {h:Int} (hc:curB s h=true):Y4 s.c h=true:=by
 unfold curB at hc
 exact (Bool.and_eq_true_iff.1 hc).1
theorem Xj4 {n:Nat} {s:Sta} {h f:Int} (hr:s.room) (hi:s.i64) (hh:I64 h) (hf:0≤f∧f≤2):callP cfg (n+8) 201 [.agg (staA s),.int .i64 h,.int .i64 f]=some ⟨.tup [.int .i64 (Xso s h f),.bool (staB s&&curB s h)],[]⟩:=by
 rw [Xa]
 unfold Xso
 by_cases hs:(staB s&&curB s h)=true
 ·obtain ⟨ha,hcu⟩:=Bool.and_eq_true_iff.1 hs
  have hn:=Xfu hcu
  obtain ⟨hc,m1,m2,m3,_⟩:=Zx ha
  have hb:=Xm hc
  have hx:=Y3 hn
  have hk:0≤idxB h∧idxB h<24:=by omega
  have hp:=Xuc hc hx hf
  rw [←m1] at hp
  have e2:decide (0≤ncB s.c (idxB h) f)=true:=decide_eq_true hp.1
  have e3:=Xal hp
  have r1:=V6 hp
  have e4:(decide (0≤f)&&decide (f≤2))=true:=by simp;omega
  rw [if_pos ⟨ha,hcu⟩]
  have fq1:=fun {n:Nat}=>U0 (n:=n) hr hi hh
  have fq2:=@Xk
  have fq3:=fun {n:Nat}=>X8 (n:=n) hh
  have fq4:=fun {n:Nat} {c:Cf}=>Wb (n:=n) (c:=c) hk hf
  refine go ?_
  clear fq1 fq2 fq3 fq4
  try with_reducible rfl
  exact okT2 rfl hs.symm
 ·rw [if_neg (fun h=>hs (by rw [h.1,h.2];rfl))]
  replace hs:(staB s&&curB s h)=false:=by simpa only [Bool.not_eq_true] using hs
  have fq1:=fun {n:Nat}=>U0 (n:=n) hr hi hh
  refine go ?_
  clear fq1
  try with_reducible rfl
  exact okT2 rfl hs.symm
theorem Xnv {n:Nat} {s:Sta} {k:Nat} (hs:staB s=true) (hr:s.room) (hi:s.i64) (hk:k<s.c.keys.toNat):callP cfg (n+5) 126 [.pv (staA s),.int .i64 (k:Int)]=some ⟨Xl (Ub s s.c.cap.toNat (unmk (cl s (X2 s.c k)))),[]⟩:=by
 rw [Xa]
 obtain ⟨hc,m1,m2,m3,_⟩:=Zx hs
 have hb:=Xm hc
 have hk4:(0:Int)≤(k:Int)∧(k:Int)<4:=by omega
 have hp:=Xif hc hk
 rw [←m1] at hp
 have e2:decide (0≤X2 s.c k)=true:=decide_eq_true hp.1
 have e3:=Xal hp
 have r1:=V6 hp
 have hm:=hi.1 _ (Xdj hp)
 have e4:decide (X2 s.c k<0)=false:=decide_eq_false (by omega)
 have fq1:=fun {n:Nat} {c:Cf}=>Qf (n:=n) (c:=c) hk4
 have fq2:=fun {n:Nat}=>Ze (n:=n) hm
 refine go ?_
 clear fq1 fq2
 refine (X9 (fun e (x:List Int×Int)=>e.set 7 (.int .i64 x.2)) (fun h x=>h.set 3 (some ⟨false,false,false,1,x.1.map iA⟩)) (fun x=>some ⟨Xl (x.1++Ub s (s.c.cap.toNat - x.1.length) x.2),[]⟩) (fun x=>x.1.length≤s.c.cap.toNat∧I64 x.2) (fun x=>s.c.cap.toNat - x.1.length) ([],unmk (cl s (X2 s.c k))) rfl ⟨Nat.zero_le _,Xy hm⟩ (by show _ - _<18446744073709551616;omega) ?_).trans rfl
 clear hp e2 e3 r1 hm e4
 rintro ⟨out,h⟩ f ⟨hk,hh⟩ IH
 simp only at hk hh ⊢
 by_cases hcu:curB s h=true
 ·have hn:=Xfu hcu
  by_cases hlt:out.length<s.c.cap.toNat
  ·have e1:decide (((out.map iA).length:Int)<s.c.cap)=true:=by rw [List.length_map];exact decide_eq_true (by omega)
   have e5:decide (((out.map iA).length+1)*8≤Yf)=true:=decide_eq_true (by rw [List.length_map];show _≤140737488355328;omega)
   have hx:=Y3 hn
   have hk2:0≤idxB h∧idxB h<24:=by omega
   have hp:=Xuc (f:=2) hc hx (by omega)
   rw [←m1] at hp
   have e2:decide (0≤ncB s.c (idxB h) 2)=true:=decide_eq_true hp.1
   have e3:=Xal hp
   have r1:=V6 hp
   have hm:I64 (fldV s h 2):=hi.1 _ (Xdj hp)
   have hm2:I64 (cl s (ncB s.c (idxB h) 2)):=hm
   have hf2:(0:Int)≤2∧(2:Int)≤2:=by omega
   obtain ⟨d,hd⟩:∃ d,s.c.cap.toNat - out.length=d+1:=⟨s.c.cap.toNat - out.length - 1,by omega⟩
   have x1:=fun {x y:R}=>Xn (x:=x) (y:=y) e5
   have fq1:=fun {n:Nat}=>Q6 (n:=n) hs hh
   have fq2:=fun {n:Nat}=>Yo (n:=n) hh
   have fq3:=fun {n:Nat} {c:Cf}=>Wc (n:=n) (c:=c) hk2 hf2
   have fq4:=fun {n:Nat}=>Ze (n:=n) hm2
   refine go ?_
   clear x1 fq1 fq2 fq3 fq4
   try with_reducible rfl
   refine (IH (out++[h],unmk (fldV s h 2)) _ _ ⟨by show (out++[h]).length≤_;rw [List.length_append,List.length_singleton];omega,Xy hm⟩ (by show _ - (out++[h]).length<_ - out.length;rw [List.length_append,List.length_singleton];omega) rfl (by simp only [List.map_append,List.map_cons,List.map_nil];rfl)).trans ?_
   have hd':s.c.cap.toNat - (out++[h]).length=d:=by rw [List.length_append,List.length_singleton];omega
   show some (⟨Xl ((out++[h])++Ub s (s.c.cap.toNat - (out++[h]).length) (unmk (fldV s h 2))),[]⟩:Res)=_
   rw [hd',hd,Ub,if_pos hcu,List.append_assoc]
   rfl
  ·have e1:decide (((out.map iA).length:Int)<s.c.cap)=false:=by rw [List.length_map];exact decide_eq_false (by omega)
   have hd:s.c.cap.toNat - out.length=0:=by omega
   rw [hd,Ub,List.append_nil]
   have fq1:=fun {n:Nat}=>Q6 (n:=n) hs hh
   refine go ?_
   clear fq1
   try with_reducible rfl
 ·replace hcu:curB s h=false:=by simpa only [Bool.not_eq_true] using hcu
  have hw:Ub s (s.c.cap.toNat - out.length) h=[]:=by
   cases s.c.cap.toNat - out.length with
   | zero=>rfl
   | succ d=>rw [Ub,if_neg (by rw [hcu];simp)]
  rw [hw,List.append_nil]
  have fq1:=fun {n:Nat}=>Q6 (n:=n) hs hh
  refine go ?_
  clear fq1
  try with_reducible rfl
theorem Xzz {c:Cf} {h:Int} (hl:lnkB c h=true):unmk h=h:=by
 unfold unmk
 rw [if_neg]
 intro hm
 unfold lnkB at hl
 rw [hm] at hl
 simp only [Bool.not_true,Bool.and_false,Bool.or_false,decide_eq_true_eq] at hl
 subst hl
 revert hm
 decide
theorem Xz0 {s:Sta} {k:Nat} (hs:staB s=true) (hk:k<s.c.keys.toNat):lnkB s.c (cl s (X2 s.c k))=true:=by
 obtain ⟨_,_,_,_,_,h,_⟩:=Zx hs
 unfold Xdi at h
 exact List.all_eq_true.1 h k (List.mem_range.2 hk)
theorem Xnw {n:Nat} {s:Sta} {k:Nat} (hs:staB s=true) (hr:s.room) (hi:s.i64) (hk:k<s.c.keys.toNat):callP cfg (n+9) 131 [.agg (staA s),.int .i64 (k:Int)]=some ⟨Xl (Ub s s.c.cap.toNat (unmk (cl s (X2 s.c k)))),[]⟩:=by
 rw [Xa]
 obtain ⟨hc,m1,m2,m3,_⟩:=Zx hs
 have hb:=Xm hc
 have hk4:(0:Int)≤(k:Int)∧(k:Int)<4:=by omega
 have hp:=Xif hc hk
 rw [←m1] at hp
 have hm:=hi.1 _ (Xdj hp)
 rw [Xzz (Xz0 hs hk)]
 have hv:Xv1 s k=cl s (X2 s.c k):=by unfold Xv1;rw [if_pos ⟨hs,by omega⟩]
 have fq1:=fun {n:Nat}=>Xnu (n:=n) hr hi hk4
 refine go ?_
 clear fq1
 rw [hv]
 refine (X9 (fun e (x:List Int×Int)=>(e.set 6 (.int .i64 x.2)).set 7 (.int .i64 (x.1.length:Int))) (fun h x=>h.set 3 (some ⟨false,false,false,1,x.1.map iA⟩)) (fun x=>some ⟨Xl (x.1++Ub s (s.c.cap.toNat - x.1.length) x.2),[]⟩) (fun x=>x.1.length≤s.c.cap.toNat∧I64 x.2) (fun x=>s.c.cap.toNat - x.1.length) ([],cl s (X2 s.c k)) rfl ⟨Nat.zero_le _,hm⟩ (by show _ - _<18446744073709551616;omega) ?_).trans rfl
 clear hp hm hv
 rintro ⟨out,h⟩ f ⟨hk,hh⟩ IH
 simp only at hk hh ⊢
 by_cases hlt:out.length<s.c.cap.toNat
 ·have e1:decide ((out.length:Int)<s.c.cap)=true:=decide_eq_true (by omega)
  by_cases hcu:curB s h=true
  ·have hn:=Xfu hcu
   have e0:(staB s&&curB s h)=true:=by rw [hs,hcu];rfl
   have e5:decide (((out.map iA).length+1)*8≤Yf)=true:=decide_eq_true (by rw [List.length_map];show _≤140737488355328;omega)
   have hw:=Xv (k:=out.length) (by omega)
   have hl:Xso s h 2=fldV s h 2:=by unfold Xso;rw [if_pos ⟨hs,hcu⟩]
   have hm:I64 (fldV s h 2):=Xv2 hs hi hn (by omega)
   have hm2:I64 (Xso s h 2):=by rw [hl];exact hm
   have hf2:(0:Int)≤2∧(2:Int)≤2:=by omega
   obtain ⟨d,hd⟩:∃ d,s.c.cap.toNat - out.length=d+1:=⟨s.c.cap.toNat - out.length - 1,by omega⟩
   have x1:=fun {x y:R}=>Xn (x:=x) (y:=y) e5
   have fq1:=fun {n:Nat}=>U0 (n:=n) hr hi hh
   have fq2:=fun {n:Nat}=>Xj4 (n:=n) hr hi hh hf2
   have fq3:=fun {n:Nat}=>Xbh (n:=n) hm2
   refine go ?_
   clear x1 fq1 fq2 fq3
   try with_reducible rfl
   refine (IH (out++[h],unmk (fldV s h 2)) _ _ ⟨by show (out++[h]).length≤_;rw [List.length_append,List.length_singleton];omega,Xy hm⟩ (by show _ - (out++[h]).length<_ - out.length;rw [List.length_append,List.length_singleton];omega) (by simp only [List.length_append,List.length_singleton];rw [hw,hl];rfl) (by simp only [List.map_append,List.map_cons,List.map_nil];rfl)).trans ?_
   have hd':s.c.cap.toNat - (out++[h]).length=d:=by rw [List.length_append,List.length_singleton];omega
   show some (⟨Xl ((out++[h])++Ub s (s.c.cap.toNat - (out++[h]).length) (unmk (fldV s h 2))),[]⟩:Res)=_
   rw [hd',hd,Ub,if_pos hcu,List.append_assoc]
   rfl
  ·replace hcu:curB s h=false:=by simpa only [Bool.not_eq_true] using hcu
   have e0:(staB s&&curB s h)=false:=by rw [hs,hcu];rfl
   have hw:Ub s (s.c.cap.toNat - out.length) h=[]:=by
    cases s.c.cap.toNat - out.length with
    | zero=>rfl
    | succ d=>rw [Ub,if_neg (by rw [hcu];simp)]
   rw [hw,List.append_nil]
   have fq1:=fun {n:Nat}=>U0 (n:=n) hr hi hh
   refine go ?_
   clear fq1
   try with_reducible rfl
 ·have e1:decide ((out.length:Int)<s.c.cap)=false:=decide_eq_false (by omega)
  have hd:s.c.cap.toNat - out.length=0:=by omega
  rw [hd,Ub,List.append_nil]
  refine go ?_
  try with_reducible rfl
def Vy (s:Sta) (k:Nat):List Int:=Ub s s.c.cap.toNat (unmk (cl s (X2 s.c k)))
def Xa6 (s:Sta) (i:Int):Bool:=(List.range s.c.keys.toNat).any fun k=>(Vy s k).any fun h=>idxB h==i
theorem Xm2 {s:Sta}:∀ (n:Nat) {h:Int},(Ub s n h).length≤n
 | 0,_=>Nat.le_refl _
 | n+1,h=>by
   rw [Ub]
   split
   ·rw [List.length_cons];have:=Xm2 (s:=s) n (h:=unmk (fldV s h 2));omega
   ·exact Nat.zero_le _
theorem Xsp {s:Sta} (hs:staB s=true) (hi:s.i64):∀ (n:Nat) {h:Int},I64 h→∀ x∈Ub s n h,I64 x∧curB s x=true
 | 0,_,_,x,hx=>by cases hx
 | n+1,h,hh,x,hx=>by
   rw [Ub] at hx
   split at hx
   ·rename_i hc
    rcases List.mem_cons.1 hx with rfl | hx
    ·exact ⟨hh,hc⟩
    ·exact Xsp hs hi n (Xy (Xv2 hs hi (Xfu hc) (by omega))) x hx
   ·cases hx
theorem Xsq {s:Sta} {k:Nat} (hs:staB s=true) (hi:s.i64) (hk:k<s.c.keys.toNat):∀ x∈Vy s k,I64 x∧curB s x=true:=by
 obtain ⟨hc,m1,_⟩:=Zx hs
 have hp:=Xif hc hk
 rw [←m1] at hp
 exact Xsp hs hi _ (Xy (hi.1 _ (Xdj hp)))
theorem Xdz {n:Nat} {s:Sta} {i:Int} (hs:staB s=true) (hr:s.room) (hi:s.i64):callP cfg (n+10) 281 [.agg (staA s),.int .i64 i]=some ⟨.bool (Xa6 s i),[]⟩:=by
 rw [Xa]
 obtain ⟨hc,m1,m2,m3,_⟩:=Zx hs
 have hb:=Xm hc
 unfold Xa6
 refine go ?_
 refine (Xb (fun e k=>e.set 5 (.int .i64 (k:Int))) (fun h _=>h) (fun k=>some ⟨.bool (((List.range s.c.keys.toNat).drop k).any fun k=>(Vy s k).any fun h=>idxB h==i),[]⟩) s.c.keys.toNat (by show _<18446744073709551616;omega) rfl ?_).trans rfl
 intro k f hk IH
 by_cases hlt:k<s.c.keys.toNat
 ·have e1:decide ((k:Int)<s.c.keys)=true:=decide_eq_true (by omega)
  have hw:=Xv (k:=k) (by omega)
  have hL:=Xm2 (s:=s) s.c.cap.toNat (h:=unmk (cl s (X2 s.c k)))
  rw [Vt hlt,List.any_cons]
  have fq1:=fun {n:Nat}=>Xnw (n:=n) hs hr hi hlt
  refine go ?_
  clear fq1
  refine (Xb (fun e j=>e.set 7 (.int .i64 (j:Int))) (fun h _=>h) (fun j=>some ⟨.bool ((((Vy s k).drop j).any fun h=>idxB h==i)||(((List.range s.c.keys.toNat).drop (k+1)).any fun k=>(Vy s k).any fun h=>idxB h==i)),[]⟩) (Vy s k).length (by show _<18446744073709551616;unfold Vy;omega) rfl ?_).trans rfl
  intro j f' hj IH2
  by_cases hlj:j<(Vy s k).length
  ·have d1:decide ((j:Int)<(((Ub s s.c.cap.toNat (unmk (cl s (X2 s.c k)))).map iA).length:Int))=true:=Xf (f:=iA) hlj
   have d2:=Xg j
   have r1:((Ub s s.c.cap.toNat (unmk (cl s (X2 s.c k)))).map iA)[j]?=some (iA ((Vy s k).getD j default)):=Xe (f:=iA) hlj
   have hwj:=Xv (k:=j) (by unfold Vy at hlj;omega)
   have hm:=(Xsq hs hi hlt _ (Xi hlj)).1
   rw [Xq hlj,List.any_cons]
   by_cases hv:(idxB ((Vy s k).getD j default)==i)=true
   ·rw [hv]
    have fq1:=fun {n:Nat}=>X8 (n:=n) hm
    refine go ?_
    clear fq1
    try with_reducible rfl
    rfl
   ·replace hv:(idxB ((Vy s k).getD j default)==i)=false:=by simpa only [Bool.not_eq_true] using hv
    rw [hv,Bool.false_or]
    have fq1:=fun {n:Nat}=>X8 (n:=n) hm
    refine go ?_
    clear fq1
    try with_reducible rfl
    exact IH2 hlj _ _ (by rw [hwj];rfl) rfl
  ·have d1:decide ((j:Int)<(((Ub s s.c.cap.toNat (unmk (cl s (X2 s.c k)))).map iA).length:Int))=false:=Xh (f:=iA) (Nat.le_of_not_lt hlj)
   rw [List.drop_eq_nil_of_le (by omega),List.any_nil,Bool.false_or]
   refine go ?_
   try with_reducible rfl
   exact IH hlt _ _ (by rw [hw];rfl) rfl
 ·have e1:decide ((k:Int)<s.c.keys)=false:=decide_eq_false (by omega)
  rw [List.drop_eq_nil_of_le (by rw [List.length_range];omega),List.any_nil]
  refine go ?_
  try with_reducible rfl
abbrev NC:Type:=Int×Int
def hit (st:NC) (b:Bool) (c:Int):NC:=if b=true then (st.1+1,c) else st
def evF (i c:Int) (st:NC) (x:Int):NC:=hit st (x==i) c
def evH (i c:Int) (st:NC) (x:Int):NC:=hit st (idxB x==i) c
def evE (i c:Int) (st:NC) (e:Ent):NC:=hit st (idxB e.h==i) c
abbrev prvI (i:Int) (t:Th):Bool:=prvB t&&(idxB t.node==i)
def Xfv (i:Int) (st:NC) (t:Th):NC:=hit (t.limbo.foldl (evH i 5) (t.free.foldl (evF i 1) st)) (prvI i t) 2
def Xii (i:Int) (st:NC) (t:Th):NC:=t.work.foldl (evE i 4) st
def finC (s:Sta) (i:Int) (st:NC):NC:=if Xa6 s i=true then (st.1+1,3) else s.ths.foldl (Xii i) st
def cntV (s:Sta) (i:Int):NC:=finC s i (s.ths.foldl (Xfv i) (0,0))
abbrev ncA (p:NC):AV:=.tup [.int .i64 p.1,.int .i64 p.2]
theorem Xsr {st:NC} {b:Bool} {c:Int} (h:b=true):hit st b c=(st.1+1,c):=by unfold hit;rw [if_pos h]
theorem Xij {st:NC} {b:Bool} {c:Int} (h:b=false):hit st b c=st:=by unfold hit;rw [if_neg (by rw [h];simp)]
set_option maxHeartbeats 8000000 in
theorem Qg {n:Nat} {s:Sta} {i:Int} (hs:staB s=true) (hr:s.room) (hi:s.i64):callP cfg (n+11) 204 [.agg (staA s),.int .i64 i]=some ⟨ncA (cntV s i),[]⟩:=by
 rw [Xa]
 have hl:=hr.2.2.1
 unfold cntV
 refine go ?_
 refine (X9 (fun e (x:Nat×NC)=>((e.set 8 (.int .i64 (x.1:Int))).set 6 (.int .i64 x.2.1)).set 7 (.int .i64 x.2.2)) (fun h _=>h) (fun x=>some ⟨ncA (finC s i ((s.ths.drop x.1).foldl (Xfv i) x.2)),[]⟩) (fun x=>x.1≤s.ths.length∧0≤x.2.1∧x.2.1≤2097153*(x.1:Int)) (fun x=>s.ths.length - x.1) (0,(0,0)) rfl ⟨Nat.zero_le _,by decide,by decide⟩ (by show _ - _<18446744073709551616;omega) ?_).trans rfl
 rintro ⟨k,st⟩ f ⟨hk,h0,h1⟩ IH
 simp only at hk h0 h1 ⊢
 by_cases hlt:k<s.ths.length
 ·have e1:=Xf (f:=thA) hlt
  have e2:=Xg k
  have r1:=Xe (f:=thA) hlt
  have hw:=Xv (k:=k) (by omega)
  obtain ⟨g1,g2,g3,g4,g5⟩:=hr.2.2.2 _ (Xi hlt)
  obtain ⟨hnode,_,_,_,_,_,hlim⟩:=hi.2 _ (Xi hlt)
  rw [Xq hlt,List.foldl_cons]
  unfold Xfv
  refine go ?_
  refine (X9 (fun e (x:Nat×NC)=>((e.set 10 (.int .i64 (x.1:Int))).set 6 (.int .i64 x.2.1)).set 7 (.int .i64 x.2.2)) (fun h _=>h) (fun x=>some ⟨ncA (finC s i ((s.ths.drop (k+1)).foldl (Xfv i) (hit ((s.ths.getD k default).limbo.foldl (evH i 5) (((s.ths.getD k default).free.drop x.1).foldl (evF i 1) x.2)) (prvI i (s.ths.getD k default)) 2))),[]⟩) (fun x=>x.1≤(s.ths.getD k default).free.length∧0≤x.2.1∧x.2.1≤2097153*(k:Int)+(x.1:Int)) (fun x=>(s.ths.getD k default).free.length - x.1) (0,st) rfl ⟨Nat.zero_le _,h0,by show st.1≤2097153*(k:Int)+((0:Nat):Int);omega⟩ (by show _ - _<18446744073709551616;omega) ?_).trans rfl
  clear h0 h1
  rintro ⟨j,st⟩ f' ⟨hj,h0,h1⟩ IH2
  simp only at hj h0 h1 ⊢
  by_cases hlj:j<(s.ths.getD k default).free.length
  ·have d1:=Xf (f:=iA) hlj
   have d2:=Xg j
   have q1:=Xe (f:=iA) hlj
   have hwj:=Xv (k:=j) (by omega)
   have hws:IntKind.i64.wrap (st.1+1)=st.1+1:=Xc (by omega) (by omega)
   rw [Xq hlj,List.foldl_cons]
   skip
   by_cases hv:(((s.ths.getD k default).free.getD j default)==i)=true
   ·have hh:evF i 1 st ((s.ths.getD k default).free.getD j default)=(st.1+1,1):=Xsr hv
    rw [hh]
    have r9:=q1
    refine go ?_
    clear r9
    try with_reducible rfl
    exact IH2 (j+1,(st.1+1,1)) _ _ ⟨hlj,by show 0≤st.1+1;omega,by show st.1+1≤2097153*(k:Int)+((j+1:Nat):Int);omega⟩ (by show _ - _<_ - _;omega) (by rw [hwj,hws];rfl) rfl
   ·replace hv:(((s.ths.getD k default).free.getD j default)==i)=false:=by simpa only [Bool.not_eq_true] using hv
    have hh:evF i 1 st ((s.ths.getD k default).free.getD j default)=st:=Xij hv
    rw [hh]
    have r9:=q1
    refine go ?_
    clear r9
    try with_reducible rfl
    exact IH2 (j+1,st) _ _ ⟨hlj,h0,by show st.1≤2097153*(k:Int)+((j+1:Nat):Int);omega⟩ (by show _ - _<_ - _;omega) (by rw [hwj];rfl) rfl
  ·have d1:=Xh (f:=iA) (Nat.le_of_not_lt hlj)
   rw [List.drop_eq_nil_of_le (by omega),List.foldl_nil]
   have hj1:(j:Int)≤1048576:=by omega
   clear IH2
   refine go ?_
   refine (X9 (fun e (x:Nat×NC)=>((e.set 11 (.int .i64 (x.1:Int))).set 6 (.int .i64 x.2.1)).set 7 (.int .i64 x.2.2)) (fun h _=>h) (fun x=>some ⟨ncA (finC s i ((s.ths.drop (k+1)).foldl (Xfv i) (hit (((s.ths.getD k default).limbo.drop x.1).foldl (evH i 5) x.2) (prvI i (s.ths.getD k default)) 2))),[]⟩) (fun x=>x.1≤(s.ths.getD k default).limbo.length∧0≤x.2.1∧x.2.1≤2097153*(k:Int)+1048576+(x.1:Int)) (fun x=>(s.ths.getD k default).limbo.length - x.1) (0,st) rfl ⟨Nat.zero_le _,h0,by show st.1≤2097153*(k:Int)+1048576+((0:Nat):Int);omega⟩ (by show _ - _<18446744073709551616;omega) ?_).trans rfl
   clear h0 h1
   rintro ⟨j,st⟩ f' ⟨hj,h0,h1⟩ IH2
   simp only at hj h0 h1 ⊢
   by_cases hlj:j<(s.ths.getD k default).limbo.length
   ·have d1:=Xf (f:=iA) hlj
    have d2:=Xg j
    have q1:=Xe (f:=iA) hlj
    have hwj:=Xv (k:=j) (by omega)
    have hws:IntKind.i64.wrap (st.1+1)=st.1+1:=Xc (by omega) (by omega)
    rw [Xq hlj,List.foldl_cons]
    have hm:=hlim _ (Xi hlj)
    by_cases hv:(idxB ((s.ths.getD k default).limbo.getD j default)==i)=true
    ·have hh:evH i 5 st ((s.ths.getD k default).limbo.getD j default)=(st.1+1,5):=Xsr hv
     rw [hh]
     have r9:=q1
     have fq1:=fun {n:Nat}=>X8 (n:=n) hm
     refine go ?_
     clear r9 fq1
     try with_reducible rfl
     exact IH2 (j+1,(st.1+1,5)) _ _ ⟨hlj,by show 0≤st.1+1;omega,by show st.1+1≤2097153*(k:Int)+1048576+((j+1:Nat):Int);omega⟩ (by show _ - _<_ - _;omega) (by rw [hwj,hws];rfl) rfl
    ·replace hv:(idxB ((s.ths.getD k default).limbo.getD j default)==i)=false:=by simpa only [Bool.not_eq_true] using hv
     have hh:evH i 5 st ((s.ths.getD k default).limbo.getD j default)=st:=Xij hv
     rw [hh]
     have r9:=q1
     have fq1:=fun {n:Nat}=>X8 (n:=n) hm
     refine go ?_
     clear r9 fq1
     try with_reducible rfl
     exact IH2 (j+1,st) _ _ ⟨hlj,h0,by show st.1≤2097153*(k:Int)+1048576+((j+1:Nat):Int);omega⟩ (by show _ - _<_ - _;omega) (by rw [hwj];rfl) rfl
   ·have d1:=Xh (f:=iA) (Nat.le_of_not_lt hlj)
    rw [List.drop_eq_nil_of_le (by omega),List.foldl_nil]
    have hj1:(j:Int)≤1048576:=by omega
    clear IH2
    have hws:IntKind.i64.wrap (st.1+1)=st.1+1:=Xc (by omega) (by omega)
    by_cases v1:prvB (s.ths.getD k default)=true
    ·by_cases v2:(idxB (s.ths.getD k default).node==i)=true
     ·have hh:hit st (prvI i (s.ths.getD k default)) 2=(st.1+1,2):=Xsr (by unfold prvI;rw [v1,v2];rfl)
      rw [hh]
      have fq1:=@Q7
      have fq2:=fun {n:Nat}=>X8 (n:=n) hnode
      refine go ?_
      clear fq1 fq2
      try with_reducible rfl
      exact IH (k+1,(st.1+1,2)) _ _ ⟨hlt,by show 0≤st.1+1;omega,by show st.1+1≤2097153*((k+1:Nat):Int);omega⟩ (by show _ - _<_ - _;omega) (by rw [hw,hws];rfl) rfl
     ·replace v2:(idxB (s.ths.getD k default).node==i)=false:=by simpa only [Bool.not_eq_true] using v2
      have hh:hit st (prvI i (s.ths.getD k default)) 2=st:=Xij (by unfold prvI;rw [v1,v2];rfl)
      rw [hh]
      have fq1:=@Q7
      have fq2:=fun {n:Nat}=>X8 (n:=n) hnode
      refine go ?_
      clear fq1 fq2
      try with_reducible rfl
      exact IH (k+1,st) _ _ ⟨hlt,h0,by show st.1≤2097153*((k+1:Nat):Int);omega⟩ (by show _ - _<_ - _;omega) (by rw [hw];rfl) rfl
    ·replace v1:prvB (s.ths.getD k default)=false:=by simpa only [Bool.not_eq_true] using v1
     have hh:hit st (prvI i (s.ths.getD k default)) 2=st:=Xij (by unfold prvI;rw [v1];rfl)
     rw [hh]
     have fq1:=@Q7
     refine go ?_
     clear fq1
     try with_reducible rfl
     exact IH (k+1,st) _ _ ⟨hlt,h0,by show st.1≤2097153*((k+1:Nat):Int);omega⟩ (by show _ - _<_ - _;omega) (by rw [hw];rfl) rfl
 ·have e1:=Xh (f:=thA) (Nat.le_of_not_lt hlt)
  rw [List.drop_eq_nil_of_le (by omega),List.foldl_nil]
  have hk1:(k:Int)≤1048576:=by omega
  have hws:IntKind.i64.wrap (st.1+1)=st.1+1:=Xc (by omega) (by omega)
  have hb0:st.1≤2199024304128:=by omega
  clear IH hlt hk h1 hk1
  unfold finC
  by_cases hL:Xa6 s i=true
  ·rw [if_pos hL]
   have fq1:=fun {n:Nat} {i:Int}=>Xdz (n:=n) (i:=i) hs hr hi
   refine go ?_
   clear fq1
   try with_reducible rfl
   rw [hws]
  ·rw [if_neg hL]
   replace hL:Xa6 s i=false:=by simpa only [Bool.not_eq_true] using hL
   have fq1:=fun {n:Nat} {i:Int}=>Xdz (n:=n) (i:=i) hs hr hi
   refine go ?_
   clear fq1
   refine (X9 (fun e (x:Nat×NC)=>((e.set 12 (.int .i64 (x.1:Int))).set 6 (.int .i64 x.2.1)).set 7 (.int .i64 x.2.2)) (fun h _=>h) (fun x=>some ⟨ncA ((s.ths.drop x.1).foldl (Xii i) x.2),[]⟩) (fun x=>x.1≤s.ths.length∧0≤x.2.1∧x.2.1≤2199024304128+1048576*(x.1:Int)) (fun x=>s.ths.length - x.1) (0,st) rfl ⟨Nat.zero_le _,h0,by show st.1≤2199024304128+1048576*((0:Nat):Int);omega⟩ (by show _ - _<18446744073709551616;omega) ?_).trans rfl
   clear h0 hb0 hws e1
   rintro ⟨k,st⟩ f ⟨hk,h0,h1⟩ IH
   simp only at hk h0 h1 ⊢
   by_cases hlt:k<s.ths.length
   ·have e1:=Xf (f:=thA) hlt
    have e2:=Xg k
    have r1:=Xe (f:=thA) hlt
    have hw:=Xv (k:=k) (by omega)
    obtain ⟨g1,g2,g3,g4,g5⟩:=hr.2.2.2 _ (Xi hlt)
    obtain ⟨_,_,_,_,_,hwork,_⟩:=hi.2 _ (Xi hlt)
    rw [Xq hlt,List.foldl_cons]
    unfold Xii
    refine go ?_
    refine (X9 (fun e (x:Nat×NC)=>((e.set 14 (.int .i64 (x.1:Int))).set 6 (.int .i64 x.2.1)).set 7 (.int .i64 x.2.2)) (fun h _=>h) (fun x=>some ⟨ncA (((s.ths.drop (k+1)).foldl (Xii i) (((s.ths.getD k default).work.drop x.1).foldl (evE i 4) x.2))),[]⟩) (fun x=>x.1≤(s.ths.getD k default).work.length∧0≤x.2.1∧x.2.1≤2199024304128+1048576*(k:Int)+(x.1:Int)) (fun x=>(s.ths.getD k default).work.length - x.1) (0,st) rfl ⟨Nat.zero_le _,h0,by show st.1≤2199024304128+1048576*(k:Int)+((0:Nat):Int);omega⟩ (by show _ - _<18446744073709551616;omega) ?_).trans rfl
    clear h0 h1
    rintro ⟨j,st⟩ f' ⟨hj,h0,h1⟩ IH2
    simp only at hj h0 h1 ⊢
    by_cases hlj:j<(s.ths.getD k default).work.length
    ·have d1:=Xf (f:=entA) hlj
     have d2:=Xg j
     have q1:=Xe (f:=entA) hlj
     have hwj:=Xv (k:=j) (by omega)
     have hws:IntKind.i64.wrap (st.1+1)=st.1+1:=Xc (by omega) (by omega)
     rw [Xq hlj,List.foldl_cons]
     have hm:=hwork _ (Xi hlj)
     by_cases hv:(idxB ((s.ths.getD k default).work.getD j default).h==i)=true
     ·have hh:evE i 4 st ((s.ths.getD k default).work.getD j default)=(st.1+1,4):=Xsr hv
      rw [hh]
      have r9:=q1
      have fq1:=fun {n:Nat}=>X8 (n:=n) hm
      refine go ?_
      clear r9 fq1
      try with_reducible rfl
      exact IH2 (j+1,(st.1+1,4)) _ _ ⟨hlj,by show 0≤st.1+1;omega,by show st.1+1≤2199024304128+1048576*(k:Int)+((j+1:Nat):Int);omega⟩ (by show _ - _<_ - _;omega) (by rw [hwj,hws];rfl) rfl
     ·replace hv:(idxB ((s.ths.getD k default).work.getD j default).h==i)=false:=by simpa only [Bool.not_eq_true] using hv
      have hh:evE i 4 st ((s.ths.getD k default).work.getD j default)=st:=Xij hv
      rw [hh]
      have r9:=q1
      have fq1:=fun {n:Nat}=>X8 (n:=n) hm
      refine go ?_
      clear r9 fq1
      try with_reducible rfl
      exact IH2 (j+1,st) _ _ ⟨hlj,h0,by show st.1≤2199024304128+1048576*(k:Int)+((j+1:Nat):Int);omega⟩ (by show _ - _<_ - _;omega) (by rw [hwj];rfl) rfl
    ·have d1:=Xh (f:=entA) (Nat.le_of_not_lt hlj)
     rw [List.drop_eq_nil_of_le (by omega),List.foldl_nil]
     have hj1:(j:Int)≤1048576:=by omega
     clear IH2
     refine go ?_
     exact IH (k+1,st) _ _ ⟨hlt,h0,by show st.1≤2199024304128+1048576*((k+1:Nat):Int);omega⟩ (by show _ - _<_ - _;omega) (by rw [hw];rfl) rfl
   ·have e1:=Xh (f:=thA) (Nat.le_of_not_lt hlt)
    rw [List.drop_eq_nil_of_le (by omega),List.foldl_nil]
    refine go ?_
    try with_reducible rfl
def clsS (s:Sta) (i:Int):Int:=if i≥cl s 1 then (if (cntV s i).1=0 then 0 else 6) else if (cntV s i).1=1 then (cntV s i).2 else 6
noncomputable def clsV (s:Sta) (i:Int):Int:=if staB s=true∧0≤i∧i≤s.c.cap - 1 then clsS s i else 6
theorem Xcp {n:Nat} {s:Sta} {i:Int} (hr:s.room) (hi:s.i64):callP cfg (n+12) 134 [.agg (staA s),.int .i64 i]=some ⟨.int .i64 (clsV s i),[]⟩:=by
 rw [Xa]
 unfold clsV
 by_cases hs:staB s=true
 ·obtain ⟨hc,m1,m2,m3,_⟩:=Zx hs
  have hb:=Xm hc
  have wk:IntKind.i64.wrap (s.c.cap - 1)=s.c.cap - 1:=Xc (by omega) (by omega)
  have hbv:Xpb s=cl s 1:=by unfold Xpb;rw [if_pos hs]
  by_cases hx:0≤i∧i≤s.c.cap - 1
  ·have e0:(decide (0≤i)&&decide (i≤IntKind.i64.wrap (s.c.cap - 1)))=true:=by rw [wk];simp;omega
   rw [if_pos ⟨hs,hx⟩]
   unfold clsS
   by_cases hy:i≥cl s 1
   ·have e1:decide (i≥Xpb s)=true:=by rw [hbv];exact decide_eq_true hy
    rw [if_pos hy]
    by_cases hz:(cntV s i).1=0
    ·have e2:((cntV s i).1==0)=true:=Yk hz
     rw [if_pos hz]
     have fq1:=fun {n:Nat}=>Xr (n:=n) hr hi
     have fq2:=@Xk
     have fq3:=fun {n:Nat}=>W8 (n:=n) hr hi
     have fq4:=fun {n:Nat} {i:Int}=>Qg (n:=n) (i:=i) hs hr hi
     refine go ?_
     clear fq1 fq2 fq3 fq4
     try with_reducible rfl
    ·have e2:((cntV s i).1==0)=false:=Xt hz
     rw [if_neg hz]
     have fq1:=fun {n:Nat}=>Xr (n:=n) hr hi
     have fq2:=@Xk
     have fq3:=fun {n:Nat}=>W8 (n:=n) hr hi
     have fq4:=fun {n:Nat} {i:Int}=>Qg (n:=n) (i:=i) hs hr hi
     refine go ?_
     clear fq1 fq2 fq3 fq4
     try with_reducible rfl
   ·have e1:decide (i≥Xpb s)=false:=by rw [hbv];exact decide_eq_false hy
    rw [if_neg hy]
    by_cases hz:(cntV s i).1=1
    ·have e2:((cntV s i).1 !=1)=false:=Yb hz
     rw [if_pos hz]
     have fq1:=fun {n:Nat}=>Xr (n:=n) hr hi
     have fq2:=@Xk
     have fq3:=fun {n:Nat}=>W8 (n:=n) hr hi
     have fq4:=fun {n:Nat} {i:Int}=>Qg (n:=n) (i:=i) hs hr hi
     refine go ?_
     clear fq1 fq2 fq3 fq4
     try with_reducible rfl
    ·have e2:((cntV s i).1 !=1)=true:=Zn hz
     rw [if_neg hz]
     have fq1:=fun {n:Nat}=>Xr (n:=n) hr hi
     have fq2:=@Xk
     have fq3:=fun {n:Nat}=>W8 (n:=n) hr hi
     have fq4:=fun {n:Nat} {i:Int}=>Qg (n:=n) (i:=i) hs hr hi
     refine go ?_
     clear fq1 fq2 fq3 fq4
     try with_reducible rfl
  ·have e0:(decide (0≤i)&&decide (i≤IntKind.i64.wrap (s.c.cap - 1)))=false:=by rw [wk];simp;omega
   rw [if_neg (fun h=>hx h.2)]
   have fq1:=fun {n:Nat}=>Xr (n:=n) hr hi
   have fq2:=@Xk
   have fq3:=fun {n:Nat}=>W8 (n:=n) hr hi
   refine go ?_
   clear fq1 fq2 fq3
   try with_reducible rfl
 ·replace hs:staB s=false:=by simpa only [Bool.not_eq_true] using hs
  rw [if_neg (fun h=>by rw [hs] at h;simp at h)]
  have fq1:=fun {n:Nat}=>Xr (n:=n) hr hi
  have fq2:=@Xk
  have fq3:=fun {n:Nat}=>W8 (n:=n) hr hi
  refine go ?_
  clear fq1 fq2 fq3
  try with_reducible rfl
def cntN (p:Nat→Bool):List Nat→Int
 | []=>0
 | i::l=>(if p i=true then 1 else 0)+cntN p l
noncomputable def ccV (s:Sta) (c:Int):Int:=if staB s=true then cntN (fun i=>clsV s i==c) (List.range s.c.cap.toNat) else 0
noncomputable def alV (s:Sta):Int:=if staB s=true then cntN (fun i=>(clsV s i !=0)&&(clsV s i !=1)) (List.range s.c.cap.toNat) else 0
theorem Xd0 {n:Nat} {s:Sta} (hr:s.room) (hi:s.i64):callP cfg (n+13) 61 [.agg (staA s)]=some ⟨.int .i64 (alV s),[]⟩:=by
 rw [Xa]
 unfold alV
 by_cases hs:staB s=true
 ·rw [if_pos hs]
  have hc:=(Zx hs).1
  have hb:=Xm hc
  refine go ?_
  refine (X9 (fun e (x:Nat×Int)=>(e.set 4 (.int .i64 (x.1:Int))).set 3 (.int .i64 x.2)) (fun h _=>h) (fun x=>some ⟨.int .i64 (x.2+cntN (fun i=>(clsV s i !=0)&&(clsV s i !=1)) ((List.range s.c.cap.toNat).drop x.1)),[]⟩) (fun x=>x.1≤s.c.cap.toNat∧0≤x.2∧x.2≤x.1) (fun x=>s.c.cap.toNat - x.1) (0,0) rfl ⟨Nat.zero_le _,by decide,by decide⟩ (by show _ - _<18446744073709551616;omega) ?_).trans (okI (Int.zero_add _))
  rintro ⟨k,m⟩ f ⟨hk,h0,h1⟩ IH
  simp only at hk h0 h1 ⊢
  by_cases hlt:k<s.c.cap.toNat
  ·have e1:decide ((k:Int)<s.c.cap)=true:=decide_eq_true (by omega)
   have hw:=Xv (k:=k) (by omega)
   have hwm:IntKind.i64.wrap (m+1)=m+1:=Xc (by omega) (by omega)
   rw [Vt hlt,cntN]
   by_cases v:(clsV s k !=0)=true
   ·by_cases v2:(clsV s k !=1)=true
    ·rw [if_pos (by rw [v,v2];rfl)]
     have fq1:=fun {n:Nat}=>Xr (n:=n) hr hi
     have fq2:=fun {n:Nat} {i:Int}=>Xcp (n:=n) (i:=i) hr hi
     refine go ?_
     clear fq1 fq2
     try with_reducible rfl
     exact ((IH (k+1,m+1) _ _ ⟨hlt,by show 0≤m+1;omega,by show m+1≤((k+1:Nat):Int);omega⟩ (by show _ - _<_ - _;omega) (by rw [hw,hwm];rfl) rfl).trans (okI (Int.add_assoc m 1 _)))
    ·rw [if_neg (fun h=>v2 (Bool.and_eq_true_iff.1 h).2)]
     replace v2:(clsV s k !=1)=false:=by simpa only [Bool.not_eq_true] using v2
     have fq1:=fun {n:Nat}=>Xr (n:=n) hr hi
     have fq2:=fun {n:Nat} {i:Int}=>Xcp (n:=n) (i:=i) hr hi
     refine go ?_
     clear fq1 fq2
     try with_reducible rfl
     exact ((IH (k+1,m) _ _ ⟨hlt,h0,by show m≤((k+1:Nat):Int);omega⟩ (by show _ - _<_ - _;omega) (by rw [hw];rfl) rfl).trans (okI (congrArg (m+·) (Int.zero_add _)).symm))
   ·rw [if_neg (fun h=>v (Bool.and_eq_true_iff.1 h).1)]
    replace v:(clsV s k !=0)=false:=by simpa only [Bool.not_eq_true] using v
    have fq1:=fun {n:Nat}=>Xr (n:=n) hr hi
    have fq2:=fun {n:Nat} {i:Int}=>Xcp (n:=n) (i:=i) hr hi
    refine go ?_
    clear fq1 fq2
    try with_reducible rfl
    exact ((IH (k+1,m) _ _ ⟨hlt,h0,by show m≤((k+1:Nat):Int);omega⟩ (by show _ - _<_ - _;omega) (by rw [hw];rfl) rfl).trans (okI (congrArg (m+·) (Int.zero_add _)).symm))
  ·have e1:decide ((k:Int)<s.c.cap)=false:=decide_eq_false (by omega)
   rw [List.drop_eq_nil_of_le (by rw [List.length_range];omega)]
   refine go ?_
   try with_reducible rfl
   exact okI (Int.add_zero m).symm
 ·replace hs:staB s=false:=by simpa only [Bool.not_eq_true] using hs
  rw [if_neg (by rw [hs];simp)]
  refine go ?_
  refine (Xb (fun e k=>(e.set 4 (.int .i64 (k:Int))).set 3 (.int .i64 0)) (fun h _=>h) (fun _=>some ⟨.int .i64 0,[]⟩) 0 (by decide) rfl ?_).trans rfl
  intro k f hk IH
  obtain rfl:k=0:=by omega
  clear IH hk
  by_cases hlt:(0:Int)<s.c.cap
  ·have e1:decide (((0:Nat):Int)<s.c.cap)=true:=decide_eq_true hlt
   have fq1:=fun {n:Nat}=>Xr (n:=n) hr hi
   refine go ?_
   clear fq1
   try with_reducible rfl
  ·have e1:decide (((0:Nat):Int)<s.c.cap)=false:=decide_eq_false hlt
   refine go ?_
   try with_reducible rfl
end Go.Proofs.YtbploohjimpcaaaGreat.A
