/- What the program's functions answer (Ic): no condition. -/
import Derived.Test.YtbploohjimpcaaaGreatHb
import Derived.Test.YtbploohjimpcaaaGreatGu
import Derived.Test.YtbploohjimpcaaaGreatIa
import Derived.Test.YtbploohjimpcaaaGreatIb
import Derived.Test.YtbploohjimpcaaaGreatGd
set_option linter.unusedVariables false
set_option linter.unusedSimpArgs false
namespace Go.Proofs.YtbploohjimpcaaaGreat.A
open Go Go.Abs
set_option maxRecDepth 100000
theorem rp_ck {c:Cf} {ps:List (List Op3)} {m:Mac} {l:List Int} (O:On c ps 0 m) (C:CK m) (hl:∀ a∈l,0≤a∧a≤9000):∀ {k:Nat},k≤l.length→CK (rp m l k)
 | 0,_=>by rw [Xqz];exact C
 | k+1,h=>by
   rw [Xq0 h]
   have O1:=Xwl O hl (Nat.le_of_lt h)
   have ih:=rp_ck O C hl (k:=k) (Nat.le_of_lt h)
   have hp:=(Xhl O1 (hl _ (Xi (Nat.lt_of_succ_le h)))).1
   unfold doPk
   split
   ·exact CK.pick O1.mi ih hp
   ·exact ih
theorem cntC_take {c:Int} {l:List Ev} {k:Nat} (h:k<l.length):cntC c (l.take (k+1))=cntC c (l.take k)+(if cE c (l.getD k default)=true then 1 else 0):=by
 unfold cntC
 have e:l.getD k default=l[k]:=by simp [List.getD_eq_getElem?_getD,h]
 rw [List.take_add_one,List.getElem?_eq_getElem h,List.filter_append,List.length_append,e]
 by_cases x:cE c l[k]=true
 ·simp [x]
 ·simp [x]
theorem cntC_le {c:Int} {l:List Ev}:cntC c l≤l.length:=List.length_filter_le _ _
theorem cE_t {c:Int} {e:Ev} (h1:e.op.k=1) (h2:0≤e.en) (h3:e.res.c=c):cE c e=true:=by unfold cE;rw [decide_eq_true h1,decide_eq_true h2,decide_eq_true h3];rfl
theorem cE_k {c:Int} {e:Ev} (h:¬e.op.k=1):cE c e=false:=by unfold cE;rw [decide_eq_false h];rfl
theorem cE_n {c:Int} {e:Ev} (h:e.en<0):cE c e=false:=by unfold cE;rw [decide_eq_false (show ¬0≤e.en by omega),Bool.false_and,Bool.and_false]
theorem cE_c {c:Int} {e:Ev} (h:¬e.res.c=c):cE c e=false:=by unfold cE;rw [decide_eq_false h,Bool.and_false,Bool.and_false]
structure Clk (x:Scr) (m:Mac):Prop where
 cm:m.s.c=x.c
 k1:1≤k0 m.s
 k2:k0 m.s≤x.c.cm
 n0:k0 m.s≤1+(cntC 0 m.evs:Int)
 n5:0<cntC 5 m.evs→k0 m.s=x.c.cm
 sn:∀ p,p<m.s.ths.length→(m.s.th p).snap<k0 m.s
 nc:0<m.s.cells.length
 th:1≤x.c.th∧x.c.th≤4
 el:m.evs.length≤80
 tl:m.s.ths.length≤4
theorem clk_of {x:Scr} (hs:scrB x=true):Clk x (rsV x):=by
 have O:=Xng hs
 have hc:Yp x.c=true:=by
  have:=Xkf hs
  unfold Vv at this
  exact (Bool.and_eq_true_iff.1 this).1
 have hb:=Xm hc
 have C:CK (rsV x):=rp_ck (On.new (Xkf hs)) (CK.new hc) (Xq1 hs) (Nat.le_refl _)
 have hk:=O.mi.si.cv.ck
 rw [cl0,O.cf] at hk
 have h5:=C.n5
 rw [O.cf] at h5
 have hlc:=O.mi.si.cv.lc
 have hlt:=O.mi.si.cv.lt
 rw [O.cf] at hlc hlt
 exact ⟨O.cf,hk.1,hk.2,C.n0,h5,fun p hp=>(C.tk p hp).2.2.1,by omega,by omega,O.mi.el,by omega⟩
theorem tyU8 {n:Nat} {avs:List AV} (h:Ty tys (n+1) 5 avs):∃ i:Int,avs=u8A i:=by
 obtain ⟨a,rfl,_⟩:=h
 exact ⟨a,rfl⟩
theorem tyBytes {n:Nat} {avs:List AV} (h:Ty tys (n+2) 68 avs):∃ xs:List Int,avs=[.lst 1 (xs.map u8A)]∧xs.length≤maxLen:=by
 obtain ⟨rows,rfl,hl,hr⟩:=h
 obtain ⟨xs,rfl,_⟩:=Xi1 (Q:=fun _=>True) fun row hrow=>by obtain ⟨o,h⟩:=tyU8 (hr row hrow);exact ⟨o,h,trivial⟩
 exact ⟨xs,rfl,by simpa using hl⟩
theorem F_laws_big {n:Nat} {bs:List Int} (hl:bs.length≤maxLen):callP cfg (n+1) 45 [.lst 1 (bs.map u8A)]=some ⟨.bool (decide (((bs.map u8A).length:Int)>1048576)),[]⟩:=by
 rw [Xa]
 refine go ?_
 try with_reducible rfl
 all_goals rfl
set_option maxHeartbeats 16000000 in
theorem F_laws_FnClock {n:Nat} {bs:List Int} (hl:bs.length≤maxLen):callP cfg (n+70) 11 [.lst 1 (bs.map u8A)]=some ⟨.bool true,[]⟩:=by
 rw [Xa]
 have hlm:=hl
 by_cases hb:((bs.map u8A).length:Int)>1048576
 ·have d0:decide (((bs.map u8A).length:Int)>1048576)=true:=decide_eq_true hb
  have fq1:=fun {n:Nat}=>F_laws_big (n:=n) hl
  refine go ?_
  clear fq1
  try with_reducible rfl
  all_goals rfl
 ·have d0:decide (((bs.map u8A).length:Int)>1048576)=false:=decide_eq_false hb
  obtain ⟨x,hr,hD⟩:=F_spec_DrawRunScript (P:=fun r=>∃ x:Scr,x.room∧r=some ⟨.agg (scrA x),[]⟩) (n:=n+61) hlm (fun c ps pk h1 h2 h3=>⟨⟨c,ps,pk⟩,⟨by show ps.length≤_;omega,fun l hl2=>by have:=h2 l hl2;omega,by show pk.length≤_;omega⟩,rfl⟩)
  have fq12:callP cfg (n+69) 46 [.lst 1 (bs.map u8A)]=some ⟨.agg (scrA x),[]⟩:=hD
  have hI:=fun {n:Nat}=>Xd4 (n:=n) hr
  have hS:=fun {n:Nat}=>Xd5 (n:=n) hr
  by_cases hs:scrB x=true
  ·rw [if_pos hs,hs] at hI hS
   have H:=clk_of hs
   generalize rsV x=m at hI hS H
   obtain ⟨Hc,H1,H2,H3,H4,H5,H6,H7,H8,H9⟩:=H
   have fq10:=@hI
   have fq11:=@hS
   have r1:(m.s.cells.map iA)[(0:Int).toNat]?=some (iA (k0 m.s)):=Xe (f:=iA) H6
   have d1:decide ((0:Int)<((m.s.cells.map iA).length:Int))=true:=decide_eq_true (by rw [List.length_map];omega)
   have d2:decide ((0:Int)≤0)=true:=rfl
   have zt:(true==true)=true:=rfl
   have fq1:=fun {n:Nat}=>F_laws_big (n:=n) hl
   have fq2:=@Zo
   refine goD ?_
   clear fq1 fq2
   try with_reducible rfl
   refine (Xb (fun e k=>((e.set 11 (.int .i64 (k:Int))).set 9 (.int .i64 (cntC 5 (m.evs.take k):Int))).set 10 (.int .i64 (cntC 0 (m.evs.take k):Int))) (fun h _=>h) (fun _=>some ⟨.bool true,[]⟩) m.evs.length (by show _<18446744073709551616;omega) rfl ?_).trans rfl
   intro k f hk IH
   by_cases hlt:k<m.evs.length
   ·have e1:=Xf (f:=evA) hlt
    have e2:=Xg k
    have r1:=Xe (f:=evA) hlt
    have hw:=Xv (k:=k) (by omega)
    have t5:=cntC_take (c:=5) hlt
    have t0:=cntC_take (c:=0) hlt
    have b5:=cntC_le (c:=5) (l:=m.evs.take k)
    have b0:=cntC_le (c:=0) (l:=m.evs.take k)
    have hkl:(m.evs.take k).length≤80:=by rw [List.length_take];omega
    have w5:IntKind.i64.wrap ((cntC 5 (m.evs.take k):Int)+1)=((cntC 5 (m.evs.take k)+1:Nat):Int):=by rw [Xc (by omega) (by omega)];omega
    have w0:IntKind.i64.wrap ((cntC 0 (m.evs.take k):Int)+1)=((cntC 0 (m.evs.take k)+1:Nat):Int):=by rw [Xc (by omega) (by omega)];omega
    by_cases h1:(m.evs.getD k default).op.k=1
    ·have z1:((m.evs.getD k default).op.k !=1)=false:=Yb h1
     by_cases h2:(m.evs.getD k default).en<0
     ·have z2:decide ((m.evs.getD k default).en<0)=true:=decide_eq_true h2
      have c5:cE 5 (m.evs.getD k default)=false:=cE_n h2
      have c0:cE 0 (m.evs.getD k default)=false:=cE_n h2
      rw [c5] at t5
      rw [c0] at t0
      refine go ?_
      exact IH hlt _ _ (by rw [hw,t5,t0];rfl) rfl
     ·have z2:decide ((m.evs.getD k default).en<0)=false:=decide_eq_false h2
      have h2':0≤(m.evs.getD k default).en:=by omega
      by_cases h5:(m.evs.getD k default).res.c=5
      ·have z5:((m.evs.getD k default).res.c==5)=true:=by rw [h5];rfl
       have c5:cE 5 (m.evs.getD k default)=true:=cE_t h1 h2' h5
       have c0:cE 0 (m.evs.getD k default)=false:=cE_c (by rw [h5];decide)
       rw [c5] at t5
       rw [c0] at t0
       refine go ?_
       exact IH hlt _ _ (by rw [hw,t5,t0,w5];rfl) rfl
      ·have z5:((m.evs.getD k default).res.c==5)=false:=Xt h5
       have c5:cE 5 (m.evs.getD k default)=false:=cE_c h5
       rw [c5] at t5
       by_cases h0:(m.evs.getD k default).res.c=0
       ·have z0:((m.evs.getD k default).res.c==0)=true:=by rw [h0];rfl
        have c0:cE 0 (m.evs.getD k default)=true:=cE_t h1 h2' h0
        rw [c0] at t0
        refine go ?_
        exact IH hlt _ _ (by rw [hw,t5,t0,w0];rfl) rfl
       ·have z0:((m.evs.getD k default).res.c==0)=false:=Xt h0
        have c0:cE 0 (m.evs.getD k default)=false:=cE_c h0
        rw [c0] at t0
        refine go ?_
        exact IH hlt _ _ (by rw [hw,t5,t0];rfl) rfl
    ·have z1:((m.evs.getD k default).op.k !=1)=true:=Zn h1
     have c5:cE 5 (m.evs.getD k default)=false:=cE_k h1
     have c0:cE 0 (m.evs.getD k default)=false:=cE_k h1
     rw [c5] at t5
     rw [c0] at t0
     refine go ?_
     exact IH hlt _ _ (by rw [hw,t5,t0];rfl) rfl
   ·have e1:=Xh (f:=evA) (Nat.le_of_not_lt hlt)
    obtain rfl:k=m.evs.length:=by omega
    clear IH
    rw [List.take_length]
    refine go ?_
    refine (Xb (fun e k=>e.set 12 (.int .i64 (k:Int))) (fun h _=>h) (fun _=>some ⟨.bool true,[]⟩) m.s.ths.length (by show _<18446744073709551616;omega) rfl ?_).trans rfl
    intro p f2 hp IH
    by_cases hlp:p<m.s.ths.length
    ·have e1:=Xf (f:=thA) hlp
     have e2:=Xg p
     have r1:=Xe (f:=thA) hlp
     have hw:=Xv (k:=p) (by omega)
     have hsn:=H5 p hlp
     have z1:decide ((m.s.ths.getD p default).snap≥k0 m.s)=false:=decide_eq_false (by show ¬(m.s.th p).snap≥_;omega)
     refine go ?_
     exact IH hlp _ _ (by rw [hw];rfl) rfl
    ·have e1:=Xh (f:=thA) (Nat.le_of_not_lt hlp)
     clear IH
     have b0:=cntC_le (c:=0) (l:=m.evs)
     have y1:decide (k0 m.s≥1)=true:=decide_eq_true H1
     have y2:decide (k0 m.s≤x.c.cm)=true:=decide_eq_true H2
     have wA:IntKind.i64.wrap (1+(cntC 0 m.evs:Int))=1+(cntC 0 m.evs:Int):=Xc (by omega) (by omega)
     have wB:IntKind.i64.wrap (IntKind.i64.wrap (1+(cntC 0 m.evs:Int))+x.c.th)=1+(cntC 0 m.evs:Int)+x.c.th:=by rw [wA];exact Xc (by omega) (by omega)
     have y3:decide (k0 m.s≤IntKind.i64.wrap (IntKind.i64.wrap (1+(cntC 0 m.evs:Int))+x.c.th))=true:=decide_eq_true (by rw [wB];omega)
     by_cases hz:cntC 5 m.evs=0
     ·have y4:((cntC 5 m.evs:Int)==0)=true:=by rw [hz];rfl
      refine go ?_
      try with_reducible rfl
      all_goals rfl
     ·have y4:((cntC 5 m.evs:Int)==0)=false:=Xt (by omega)
      have y5:(k0 m.s==x.c.cm)=true:=by rw [H4 (by omega)];simp
      refine go ?_
      try with_reducible rfl
      all_goals first | rfl | exact okB y5
  ·replace hs:scrB x=false:=by simpa using hs
   rw [if_neg (by rw [hs];simp),hs] at hI hS
   have fq10:=@hI
   have fq11:=@hS
   have zt:(false==false)=true:=rfl
   have fq1:=fun {n:Nat}=>F_laws_big (n:=n) hl
   refine go ?_
   clear fq1
   try with_reducible rfl
   all_goals rfl
end Go.Proofs.YtbploohjimpcaaaGreat.A
