/- What the program's functions answer (Xs): no condition. -/
import Derived.Test.YtbploohjimpcaaaGreatXr
import Derived.Test.YtbploohjimpcaaaGreatUc
import Derived.Test.YtbploohjimpcaaaGreatIb
set_option linter.unusedVariables false
set_option linter.unusedSimpArgs false
namespace Go.Proofs.YtbploohjimpcaaaGreat.A
open Go Go.Abs
set_option maxRecDepth 100000
structure Ret (x:Scr) (m:Mac):Prop where
 cm:m.s.c=x.c
 a1:m.s.retries≤m.s.changes*x.c.th
 a2:m.s.steps≤m.time
 a3:x.c.th>1∨m.s.retries=0
 ch:0≤m.s.changes∧m.s.changes≤1000000
 th:1≤x.c.th∧x.c.th≤4
theorem rp_os {c:Cf} {ps:List (List Op3)} {m:Mac} {l:List Int} {k0:Nat} (O:On c ps 0 m) (C:OS m k0) (hl:∀ a∈l,0≤a∧a≤9000):∀ {k:Nat},k≤l.length→k0+k≤9998→OS (rp m l k) (k0+k)
 | 0,_,_=>by rw [Xqz];exact C
 | k+1,h,h9=>by
   rw [Xq0 h]
   have O1:=Xwl O hl (Nat.le_of_lt h)
   have ih:=rp_os O C hl (k:=k) (Nat.le_of_lt h) (by omega)
   have hp:=(Xhl O1 (hl _ (Xi (Nat.lt_of_succ_le h)))).1
   unfold doPk
   split
   ·exact ih.pick O1.mi hp (show k0+k≤9998 by omega)
   ·obtain ⟨⟨G,F⟩,R,fl⟩:=ih
    exact ⟨⟨G,F.mono (Nat.le_succ _)⟩,R,fl⟩
theorem rs_os {x:Scr} (hs:scrB x=true):OS (rsV x) x.picks.length:=by
 have hc:Yp x.c=true:=by
  have:=Xkf hs
  unfold Vv at this
  exact (Bool.and_eq_true_iff.1 this).1
 have h400:x.picks.length≤400:=by
  unfold scrB at hs
  simp only [Bool.and_eq_true,decide_eq_true_eq] at hs
  exact hs.2.1
 have:=rp_os (On.new (Xkf hs)) (OS.new (ps:=x.ps) hc) (Xq1 hs) (Nat.le_refl _) (by omega)
 unfold rsV
 simpa using this
theorem ret_of {x:Scr} (hs:scrB x=true):Ret x (rsV x):=by
 have O:=Xng hs
 have S:=rs_os hs
 have hc:Yp x.c=true:=by
  have:=Xkf hs
  unfold Vv at this
  exact (Bool.and_eq_true_iff.1 this).1
 have hb:=Xm hc
 have hlt:=O.mi.si.cv.lt
 rw [O.cf] at hlt
 have h1:=S.rt.le
 rw [hlt,Int.mul_comm] at h1
 have:=O.mi.n1;have:=O.mi.n2;have:=O.mi.tm
 refine ⟨O.cf,h1,by omega,?_,by omega,by omega⟩
 by_cases h:x.c.th>1
 ·exact .inl h
 ·exact .inr (S.rt.on (by omega)).1
theorem tyU8 {n:Nat} {avs:List AV} (h:Ty tys (n+1) 5 avs):∃ i:Int,avs=u8A i:=by
 obtain ⟨a,rfl,_⟩:=h
 exact ⟨a,rfl⟩
theorem tyBytes {n:Nat} {avs:List AV} (h:Ty tys (n+2) 68 avs):∃ xs:List Int,avs=[.lst 1 (xs.map u8A)]∧xs.length≤maxLen:=by
 obtain ⟨rows,rfl,hl,hr⟩:=h
 obtain ⟨xs,rfl,_⟩:=Xi1 (Q:=fun _=>True) fun row hrow=>by obtain ⟨o,h⟩:=tyU8 (hr row hrow);exact ⟨o,h,trivial⟩
 exact ⟨xs,rfl,by simpa using hl⟩
theorem F_laws_big {n:Nat} {bs:List Int} (hl:bs.length≤maxLen):callP cfg (n+1) 45 [.lst 1 (bs.map u8A)]=some ⟨.bool (decide (((bs.map u8A).length:Int)>1048576)),[]⟩:=by
 rw [Xa]
 refine go ?_
 try with_reducible rfl
 all_goals rfl
set_option maxHeartbeats 16000000 in
theorem F_laws_FnRetries {n:Nat} {bs:List Int} (hl:bs.length≤maxLen):callP cfg (n+63) 10 [.lst 1 (bs.map u8A)]=some ⟨.bool true,[]⟩:=by
 rw [Xa]
 have hlm:=hl
 by_cases hb:((bs.map u8A).length:Int)>1048576
 ·have d0:decide (((bs.map u8A).length:Int)>1048576)=true:=decide_eq_true hb
  have fq1:=fun {n:Nat}=>F_laws_big (n:=n) hl
  refine go ?_
  clear fq1
  try with_reducible rfl
  all_goals rfl
 ·have d0:decide (((bs.map u8A).length:Int)>1048576)=false:=decide_eq_false hb
  obtain ⟨x,hr,hD⟩:=F_spec_DrawRunScript (P:=fun r=>∃ x:Scr,x.room∧r=some ⟨.agg (scrA x),[]⟩) (n:=n+54) hlm (fun c ps pk h1 h2 h3=>⟨⟨c,ps,pk⟩,⟨by show ps.length≤_;omega,fun l hl2=>by have:=h2 l hl2;omega,by show pk.length≤_;omega⟩,rfl⟩)
  have fq12:callP cfg (n+62) 46 [.lst 1 (bs.map u8A)]=some ⟨.agg (scrA x),[]⟩:=hD
  have hI:=fun {n:Nat}=>Xd4 (n:=n) hr
  by_cases hs:scrB x=true
  ·rw [if_pos hs,hs] at hI
   have H:=ret_of hs
   generalize rsV x=m at hI H
   obtain ⟨Hc,H1,H2,H3,H4,H5⟩:=H
   have fq10:=@hI
   have hm4:0≤m.s.changes*x.c.th:=Int.mul_nonneg (by omega) (by omega)
   have hm5:m.s.changes*x.c.th≤1000000*4:=Int.mul_le_mul H4.2 H5.2 (by omega) (by omega)
   have wA:IntKind.i64.wrap (m.s.changes*x.c.th)=m.s.changes*x.c.th:=Xc (by omega) (by omega)
   have y1:decide (m.s.retries≤IntKind.i64.wrap (m.s.changes*x.c.th))=true:=decide_eq_true (by rw [wA];exact H1)
   have y2:decide (m.s.steps≤m.time)=true:=decide_eq_true H2
   by_cases h1:x.c.th>1
   ·have y3:decide (x.c.th>1)=true:=decide_eq_true h1
    have fq1:=fun {n:Nat}=>F_laws_big (n:=n) hl
    refine go ?_
    clear fq1
    try with_reducible rfl
    all_goals rfl
   ·have y3:decide (x.c.th>1)=false:=decide_eq_false h1
    have y4:(m.s.retries==0)=true:=by rw [H3.resolve_left h1];rfl
    have fq1:=fun {n:Nat}=>F_laws_big (n:=n) hl
    refine go ?_
    clear fq1
    try with_reducible rfl
    all_goals first | rfl | exact okB y4
  ·replace hs:scrB x=false:=by simpa using hs
   rw [if_neg (by rw [hs];simp),hs] at hI
   have fq10:=@hI
   have hS:=fun {n:Nat}=>Ws (n:=n) hr
   rw [hs] at hS
   have fq11:=@hS
   have fq1:=fun {n:Nat}=>F_laws_big (n:=n) hl
   refine go ?_
   clear fq1
   try with_reducible rfl
   all_goals rfl
end Go.Proofs.YtbploohjimpcaaaGreat.A
