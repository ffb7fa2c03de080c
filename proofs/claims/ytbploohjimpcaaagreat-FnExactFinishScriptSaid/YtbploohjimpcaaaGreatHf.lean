/- What the program's functions answer (Hf): no condition. -/
import Derived.Test.YtbploohjimpcaaaGreatHd
import Derived.Test.YtbploohjimpcaaaGreatHc
set_option linter.unusedVariables false
set_option linter.unusedSimpArgs false
namespace Go.Proofs.YtbploohjimpcaaaGreat.A
open Go Go.Abs
set_option maxRecDepth 100000
noncomputable def fsG (x:Scr):Mac:=if scrB x=true then fsV x else mac0
theorem X5z {x:Scr}:(fsG x).room∧(fsG x).evs.length≤80:=by
 unfold fsG
 split
 ·rename_i h
  exact ⟨(X00 h).mi.mroom,(X00 h).mi.el⟩
 ·exact ⟨Xpm,Xwm⟩
theorem X50 {x:Scr}:(if scrB x=true then macA (fsV x) else macA mac0)=macA (fsG x):=by unfold fsG;split <;> rfl
set_option maxHeartbeats 400000000 in
theorem F_laws_FnExactFinishScript {n:Nat} {x:Scr} (hx:x.len):callP cfg (n+71) 4 [.agg (scrA x)]=some ⟨.bool true,[]⟩:=by
 rw [Xa]
 have z0:(0:Int)≤1048576:=by decide
 have z1:(1048576:Int)≤1048576:=by decide
 by_cases hz:szSc x 1048576<0
 ·have d:decide (szSc x 1048576<0)=true:=decide_eq_true hz
  have fq1:=fun {n:Nat}=>Zf (n:=n) hx z0 z1
  refine go ?_
  clear fq1
  try with_reducible rfl
  all_goals rfl
 ·have d:decide (szSc x 1048576<0)=false:=decide_eq_false hz
  have hr:=Xd3 hz
  have hI:=fun {n:Nat}=>Xgo (n:=n) hr
  have hS:=fun {n:Nat}=>Xgp (n:=n) hr
  obtain ⟨hm,he⟩:=X5z (x:=x)
  rw [X50] at hI hS
  generalize fsG x=m at hI hS hm he
  have hB:(scrB x==scrB x)=true:=by simp
  generalize scrB x=B at hI hS hB
  obtain ⟨a1,a2,a3,a4,a5,a6⟩:=Ks hm
  have hm':=hm
  obtain ⟨⟨h11,h12,h13,h14⟩,h2,h3,h4,h5⟩:=hm'
  have l1:=Sta.len_of hm.1
  have l2:=Xaj h2
  have l3:=fun l hl=>Xaj (h3 l hl)
  have l4:=Xaj h4
  have fq11:=@hI
  have fq12:=@hS
  have hxx:(!decide (x=x))=false:=by simp
  have fq1:=fun {n:Nat}=>Zf (n:=n) hx z0 z1
  have fq2:=fun {n:Nat}=>Z0 (n:=n) hr
  have fq3:=fun {n:Nat} {b:Scr}=>Vl (n:=n) (b:=b) hx
  have fq4:=fun {n:Nat}=>Va (n:=n) l1 l2 l3 l4 he
  refine goD ?_
  clear fq1 fq2 fq3 fq4
  dsimp only
  have hrC:=hr
  obtain ⟨hr1,hr2,hr3⟩:=hrC
  clear fq11 fq12
  refine (X9 (fun e (x:Nat×Int×List (List Op3))=>(e.set 5 (.int .i64 (x.1:Int))).set 1 (.int .i64 x.2.1)) (fun h y=>h.set 6 (some ⟨false,false,true,ty40.size,[rowS x y.2.2 x.picks]⟩)) (fun _=>some ⟨.bool true,[]⟩) (fun y=>(∀ p∈y.2.2,p.length≤1048576)∧y.2.2.length=x.ps.length∧y.1≤x.ps.length∧0≤y.2.1∧y.2.1≤1+3145728*(y.1:Int)) (fun y=>x.ps.length - y.1) (0,1,x.ps) rfl ⟨hr2,rfl,Nat.zero_le _,by show (0:Int)≤1;decide,by show (1:Int)≤1+3145728*((0:Nat):Int);decide⟩ (by show _ - _<18446744073709551616;omega) ?_).trans rfl
  rintro ⟨i,k,ps⟩ fI ⟨hW,hn,hj,hk0,hk1⟩ IHI
  simp only at hW hn hj hk0 hk1
  by_cases hli:i<x.ps.length
  ·have hi':i<ps.length:=by omega
   have d1:=Xf (f:=Xp) hi'
   have d2:=Xg i
   have r1:=Xe (f:=Xp) hi'
   have hwi:=Xv (k:=i) (by omega)
   refine go ?_
   refine (X9 (fun e (x:Nat×Int×List (List Op3))=>(e.set 5 (.int .i64 (x.1:Int))).set 1 (.int .i64 x.2.1)) (fun h y=>h.set 6 (some ⟨false,false,true,ty40.size,[rowS x y.2.2 x.picks]⟩)) (fun _=>some ⟨.bool true,[]⟩) (fun y=>(∀ p∈y.2.2,p.length≤1048576)∧y.2.2.length=x.ps.length∧y.1≤(y.2.2.getD i default).length∧0≤y.2.1∧y.2.1≤1+3145728*(i:Int)+3*(y.1:Int)) (fun y=>(y.2.2.getD i default).length - y.1) (0,k,ps) rfl ⟨hW,hn,Nat.zero_le _,hk0,by show k≤_+3*((0:Nat):Int);omega⟩ (by have:=hW _ (Xi hi');show (ps.getD i default).length - 0<18446744073709551616;omega) ?_).trans rfl
   clear hk1
   rintro ⟨j,k,ps⟩ fJ ⟨hW,hn,hj,hk0,hk1⟩ IHJ
   simp only at hW hn hj hk0 hk1
   have hi':i<ps.length:=by omega
   have hlm:=hW _ (Xi hi')
   have r1:=Xe (f:=Xp) hi'
   by_cases hlj:j<(ps.getD i default).length
   ·have d1:=Xf (f:=opA) hlj
    have d2:=Xg j
    have r2:=Xe (f:=opA) hlj
    have hwj:=Xv (k:=j) (by omega)
    have w1:IntKind.i64.wrap (k+1)=k+1:=by rw [Xc (by omega) (by omega)];first | done | omega
    have w2:IntKind.i64.wrap (k+1+1)=k+2:=by rw [Xc (by omega) (by omega)];first | done | omega
    have w3:IntKind.i64.wrap (k+2+1)=k+3:=by rw [Xc (by omega) (by omega)];first | done | omega
    have hL:j<((ps.getD i default).map opA).length:=by rw [List.length_map];exact hlj
    have hM:i<(ps.map Xp).length:=by rw [List.length_map];exact hi'
    have d3:∀ row,decide ((j:Int)<((((ps.getD i default).map opA).set j row).length:Int))=true:=fun row=>by rw [List.length_set];exact d1
    have x1:=fun {row:List AV} {x y:R}=>Xn (x:=x) (y:=y) (d3 row)
    have st1:=r1
    have st2:=r2
    refine go ?_
    clear st1 st2
    try with_reducible rfl
    refine IHJ (j+1,IntKind.i64.wrap (IntKind.i64.wrap (IntKind.i64.wrap (k+1)+1)+1),ps.set i ((ps.getD i default).set j ⟨k,IntKind.i64.wrap (k+1),IntKind.i64.wrap (IntKind.i64.wrap (k+1)+1)⟩)) _ _ ⟨X0x hW (by rw [List.length_set];exact hlm),by show (ps.set i _).length=_;rw [List.length_set];exact hn,by show j+1≤((ps.set i ((ps.getD i default).set j ⟨k,IntKind.i64.wrap (k+1),IntKind.i64.wrap (IntKind.i64.wrap (k+1)+1)⟩)).getD i default).length;rw [Xb7 hi',List.length_set];exact hlj,by show 0≤IntKind.i64.wrap (IntKind.i64.wrap (IntKind.i64.wrap (k+1)+1)+1);rw [w1,w2,w3];omega,by show IntKind.i64.wrap (IntKind.i64.wrap (IntKind.i64.wrap (k+1)+1)+1)≤_+3*((j+1:Nat):Int);rw [w1,w2,w3];omega⟩ (by show ((ps.set i ((ps.getD i default).set j ⟨k,IntKind.i64.wrap (k+1),IntKind.i64.wrap (IntKind.i64.wrap (k+1)+1)⟩)).getD i default).length - (j+1)<(ps.getD i default).length - j;rw [Xb7 hi',List.length_set];omega) (by rw [hwj];rfl) (by dsimp only;unfold rowS;rw [Xuq,Xkg];first | done | rfl)
   ·have d1:=Xh (f:=opA) (Nat.le_of_not_lt hlj)
    have dI:=Xf (f:=Xp) hi'
    have dZ:=Xg i
    refine go ?_
    refine IHI (i+1,k,ps) _ _ ⟨hW,hn,by show i+1≤x.ps.length;omega,hk0,by show k≤1+3145728*((i+1:Nat):Int);omega⟩ (by show x.ps.length - (i+1)<x.ps.length - i;omega) (by rw [hwi];rfl) rfl
  ·have d1:=Xh (xs:=ps) (k:=i) (f:=Xp) (by omega)
   have hi1:(i:Int)≤1048576:=by omega
   replace hk1:k≤4398046511104:=by omega
   refine go ?_
   refine (X9 (fun e (x:Nat×Int×List Int)=>(e.set 5 (.int .i64 (x.1:Int))).set 1 (.int .i64 x.2.1)) (fun h y=>h.set 6 (some ⟨false,false,true,ty40.size,[rowS x ps y.2.2]⟩)) (fun _=>some ⟨.bool true,[]⟩) (fun y=>y.1≤y.2.2.length∧y.2.2.length≤1048576∧0≤y.2.1∧y.2.1≤4398046511104+(y.1:Int)) (fun y=>y.2.2.length - y.1) (0,k,x.picks) rfl ⟨Nat.zero_le _,hr3,hk0,by show k≤_+((0:Nat):Int);omega⟩ (by show x.picks.length - 0<18446744073709551616;omega) ?_).trans rfl
   clear hk1
   rintro ⟨j,k,pk⟩ fK ⟨hj,hp3,hk0,hk1⟩ IHK
   simp only at hj hp3 hk0 hk1
   by_cases hlj:j<pk.length
   ·have d1:=Xf (f:=iA) hlj
    have d2:=Xg j
    have r2:=Xe (f:=iA) hlj
    have hwj:=Xv (k:=j) (by omega)
    have w1:IntKind.i64.wrap (k+1)=k+1:=by rw [Xc (by omega) (by omega)];first | done | omega
    have st1:=r2
    refine go ?_
    clear st1
    refine IHK (j+1,IntKind.i64.wrap (k+1),pk.set j k) _ _ ⟨by show j+1≤(pk.set j k).length;rw [List.length_set];exact hlj,by show (pk.set j k).length≤_;rw [List.length_set];exact hp3,by show 0≤IntKind.i64.wrap (k+1);rw [w1];omega,by show IntKind.i64.wrap (k+1)≤_+((j+1:Nat):Int);rw [w1];omega⟩ (by show (pk.set j k).length - (j+1)<pk.length - j;rw [List.length_set];omega) (by rw [hwj];rfl) (by dsimp only;unfold rowS;rw [List.map_set];first | done | rfl)
   ·have d1:=Xh (f:=iA) (Nat.le_of_not_lt hlj)
    have hk2:decide (k<0)=false:=decide_eq_false (by omega)
    have fq1:=fun {n:Nat}=>Va (n:=n) l1 l2 l3 l4 he
    refine go ?_
    clear fq1
    have hmkc:(mkI 1 m.s.cells.length).length=m.s.cells.length:=Uo
    dsimp only
    refine (Xb (fun e j=>(e.set 5 (.int .i64 (j:Int))).set 1 (.int .i64 (kS 1 1 j))) (fun h j=>h.set 8 (some ⟨false,false,true,ty36.size,[(rowM m (.lst 1 ((mix (mkI 1 m.s.cells.length) m.s.cells j).map iA)) (Xl m.s.gens) (thsA m.s.ths) (Yt m.progs) (Xl m.next) (evsA m.evs))]⟩)) (fun _=>some ⟨.bool true,[]⟩) m.s.cells.length (by show _<18446744073709551616;omega) (by rw [Zd,kS_zero];first | done | rfl) ?_).trans rfl
    intro j fc hjc IHc
    have hkc:=kS_w (K:=1) (c:=1) (j:=j) (by decide) (by decide) (by decide) (by decide) (by omega)
    by_cases hlj:j<m.s.cells.length
    ·have d0:j<(mix (mkI 1 m.s.cells.length) m.s.cells j).length:=by rw [Yg hmkc (by omega)];exact hlj
     have d1:=Xf (f:=iA) d0
     have d2:=Xg j
     have r2:=Zv (f:=iA) hmkc hlj
     have hwj:=Xv (k:=j) (by omega)
     have w1:IntKind.i64.wrap (kS 1 1 j+1)=kS 1 1 (j+1):=by rw [Xc (by omega) (by omega),kS_succ];first | done | omega
     have hL:j<((mix (mkI 1 m.s.cells.length) m.s.cells j).map iA).length:=by rw [List.length_map];exact d0
     have st1:=r2
     refine go ?_
     clear st1
     exact IHc hlj _ _ (by rw [hwj,w1];rfl) (by rw [←Zy (f:=iA) hmkc hlj (U3 hlj)];first | done | rfl)
    ·have hj2:j=m.s.cells.length:=by omega
     have d1:decide ((j:Int)<(((mix (mkI 1 m.s.cells.length) m.s.cells j).map iA).length:Int))=false:=Xh (f:=iA) (by rw [Yg hmkc (by omega)];omega)
     clear IHc hlj
     rw [Zz hmkc hj2] at d1 ⊢
     subst hj2
     refine go ?_
     have hmkg:(mkI (ka m) m.s.gens.length).length=m.s.gens.length:=Uo
     dsimp only
     refine (Xb (fun e j=>(e.set 5 (.int .i64 (j:Int))).set 1 (.int .i64 (kS (ka m) 1 j))) (fun h j=>h.set 8 (some ⟨false,false,true,ty36.size,[(rowM m (xa m) (.lst 1 ((mix (mkI (ka m) m.s.gens.length) m.s.gens j).map iA)) (thsA m.s.ths) (Yt m.progs) (Xl m.next) (evsA m.evs))]⟩)) (fun _=>some ⟨.bool true,[]⟩) m.s.gens.length (by show _<18446744073709551616;omega) (by rw [Zd,kS_zero];first | done | rfl) ?_).trans rfl
     intro j fg hjg IHg
     have hkg:=kS_w (K:=(ka m)) (c:=1) (j:=j) a1.1 (by omega) (by decide) (by decide) (by omega)
     by_cases hlj:j<m.s.gens.length
     ·have d0:j<(mix (mkI (ka m) m.s.gens.length) m.s.gens j).length:=by rw [Yg hmkg (by omega)];exact hlj
      have d1:=Xf (f:=iA) d0
      have d2:=Xg j
      have r2:=Zv (f:=iA) hmkg hlj
      have hwj:=Xv (k:=j) (by omega)
      have w1:IntKind.i64.wrap (kS (ka m) 1 j+1)=kS (ka m) 1 (j+1):=by rw [Xc (by omega) (by omega),kS_succ];first | done | omega
      have hL:j<((mix (mkI (ka m) m.s.gens.length) m.s.gens j).map iA).length:=by rw [List.length_map];exact d0
      have st1:=r2
      refine go ?_
      clear st1
      exact IHg hlj _ _ (by rw [hwj,w1];rfl) (by rw [←Zy (f:=iA) hmkg hlj (U3 hlj)];first | done | rfl)
     ·have hj2:j=m.s.gens.length:=by omega
      have d1:decide ((j:Int)<(((mix (mkI (ka m) m.s.gens.length) m.s.gens j).map iA).length:Int))=false:=Xh (f:=iA) (by rw [Yg hmkg (by omega)];omega)
      clear IHg hlj
      rw [Zz hmkg hj2] at d1 ⊢
      subst hj2
      refine go ?_
      have hmkT:(mkTs (kb m) m.s.ths).length=m.s.ths.length:=Xi9
      dsimp only
      refine (Xb (fun e i=>(e.set 5 (.int .i64 (i:Int))).set 1 (.int .i64 (kT (kb m) m.s.ths i))) (fun h i=>h.set 8 (some ⟨false,false,true,ty36.size,[(rowM m (xa m) (xb m) (.lst 19 ((mix (mkTs (kb m) m.s.ths) m.s.ths i).map thA)) (Yt m.progs) (Xl m.next) (evsA m.evs))]⟩)) (fun _=>some ⟨.bool true,[]⟩) m.s.ths.length (by show _<18446744073709551616;omega) (by rw [Zd,kT_zero];first | done | rfl) ?_).trans rfl
      intro i fT hi IHT
      have kt:=Xs5 (K:=(kb m)) (l:=m.s.ths) a2.1 (by omega) h13 h14 hi
      by_cases hli:i<m.s.ths.length
      ·have d0:i<(mix (mkTs (kb m) m.s.ths) m.s.ths i).length:=by rw [Yg hmkT (by omega)];exact hli
       have d1:=Xf (f:=thA) d0
       have d2:=Xg i
       have dZ:=Xg i
       have r1:=Zv (f:=thA) hmkT hli
       have hwi:=Xv (k:=i) (by omega)
       have hLt:i<((mix (mkTs (kb m) m.s.ths) m.s.ths i).map thA).length:=by rw [List.length_map];exact d0
       have hMt:∀ row,i<(((mix (mkTs (kb m) m.s.ths) m.s.ths i).map thA).set i row).length:=fun row=>by rw [List.length_set];exact hLt
       have d3:∀ row,decide ((i:Int)<((((mix (mkTs (kb m) m.s.ths) m.s.ths i).map thA).set i row).length:Int))=true:=fun row=>by rw [List.length_set];exact d1
       have y2:=fun {row:List AV} {x y:R}=>Xn (x:=x) (y:=y) (d3 row)
       have hrt:=h14 _ (Xi hli)
       have kt1:(kT (kb m) m.s.ths i)≤562949953421312:=by omega
       obtain ⟨⟨hz0,hz1⟩,q1,q2,q3,q4,z1,z2,z3,z4⟩:=qsW (t:=(m.s.ths.getD i default)) kt.1 kt1 hrt
       obtain ⟨g1,g2,g3,g4,g5⟩:=hrt
       have thEq:=thW (t:=(m.s.ths.getD i default)) kt.1 kt1
       have kEq:=kW kt.1 kt1
       have x1:=@y2
       have hL:=hLt
       have st1:=r1
       refine go ?_
       clear st1
       clear hL
       have hmka:(mkI (wz (kT (kb m) m.s.ths i)) (m.s.ths.getD i default).found.length).length=(m.s.ths.getD i default).found.length:=Uo
       dsimp only
       refine (Xb (fun e j=>(e.set 5 (.int .i64 (j:Int))).set 1 (.int .i64 (kS (wz (kT (kb m) m.s.ths i)) 1 j))) (fun h j=>h.set 8 (some ⟨false,false,true,ty36.size,[(rowM m (xa m) (xb m) (.lst 19 (((mix (mkTs (kb m) m.s.ths) m.s.ths i).map thA).set i (rowW (kT (kb m) m.s.ths i) (.lst 1 ((mix (mkI (wz (kT (kb m) m.s.ths i)) (m.s.ths.getD i default).found.length) (m.s.ths.getD i default).found j).map iA)) (.lst 1 ((m.s.ths.getD i default).free.map iA)) (.lst 4 ((m.s.ths.getD i default).buf.map entA)) (.lst 4 ((m.s.ths.getD i default).work.map entA)) (.lst 1 ((m.s.ths.getD i default).limbo.map iA))))) (Yt m.progs) (Xl m.next) (evsA m.evs))]⟩)) (fun _=>some ⟨.bool true,[]⟩) (m.s.ths.getD i default).found.length (by show _<18446744073709551616;omega) (by rw [Zd,kS_zero];first | done | rfl) ?_).trans rfl
       intro j fa hja IHa
       have hka:=kS_w (K:=(wz (kT (kb m) m.s.ths i))) (c:=1) (j:=j) hz0 hz1 (by decide) (by decide) (by omega)
       by_cases hlj:j<(m.s.ths.getD i default).found.length
       ·have d0:j<(mix (mkI (wz (kT (kb m) m.s.ths i)) (m.s.ths.getD i default).found.length) (m.s.ths.getD i default).found j).length:=by rw [Yg hmka (by omega)];exact hlj
        have d1:=Xf (f:=iA) d0
        have d2:=Xg j
        have r2:=Zv (f:=iA) hmka hlj
        have r1:(((mix (mkTs (kb m) m.s.ths) m.s.ths i).map thA).set i (rowW (kT (kb m) m.s.ths i) (.lst 1 ((mix (mkI (wz (kT (kb m) m.s.ths i)) (m.s.ths.getD i default).found.length) (m.s.ths.getD i default).found j).map iA)) (.lst 1 ((m.s.ths.getD i default).free.map iA)) (.lst 4 ((m.s.ths.getD i default).buf.map entA)) (.lst 4 ((m.s.ths.getD i default).work.map entA)) (.lst 1 ((m.s.ths.getD i default).limbo.map iA))))[i]?=some (rowW (kT (kb m) m.s.ths i) (.lst 1 ((mix (mkI (wz (kT (kb m) m.s.ths i)) (m.s.ths.getD i default).found.length) (m.s.ths.getD i default).found j).map iA)) (.lst 1 ((m.s.ths.getD i default).free.map iA)) (.lst 4 ((m.s.ths.getD i default).buf.map entA)) (.lst 4 ((m.s.ths.getD i default).work.map entA)) (.lst 1 ((m.s.ths.getD i default).limbo.map iA))):=Zw hLt
        have hM:=hLt
        have hwj:=Xv (k:=j) (by omega)
        have w1:IntKind.i64.wrap (kS (wz (kT (kb m) m.s.ths i)) 1 j+1)=kS (wz (kT (kb m) m.s.ths i)) 1 (j+1):=by rw [Xc (by omega) (by omega),kS_succ];first | done | omega
        have hL:j<((mix (mkI (wz (kT (kb m) m.s.ths i)) (m.s.ths.getD i default).found.length) (m.s.ths.getD i default).found j).map iA).length:=by rw [List.length_map];exact d0
        have st1:=r2
        refine go ?_
        clear st1
        exact IHa hlj _ _ (by rw [hwj,w1];rfl) (by rw [←Zy (f:=iA) hmka hlj (U3 hlj)];first | done | rfl)
       ·have hj2:j=(m.s.ths.getD i default).found.length:=by omega
        have d1:decide ((j:Int)<(((mix (mkI (wz (kT (kb m) m.s.ths i)) (m.s.ths.getD i default).found.length) (m.s.ths.getD i default).found j).map iA).length:Int))=false:=Xh (f:=iA) (by rw [Yg hmka (by omega)];omega)
        clear IHa hlj
        rw [Zz hmka hj2] at d1 ⊢
        subst hj2
        have r1:(((mix (mkTs (kb m) m.s.ths) m.s.ths i).map thA).set i (rowW (kT (kb m) m.s.ths i) (.lst 1 ((mkI (wz (kT (kb m) m.s.ths i)) (m.s.ths.getD i default).found.length).map iA)) (.lst 1 ((m.s.ths.getD i default).free.map iA)) (.lst 4 ((m.s.ths.getD i default).buf.map entA)) (.lst 4 ((m.s.ths.getD i default).work.map entA)) (.lst 1 ((m.s.ths.getD i default).limbo.map iA))))[i]?=some (rowW (kT (kb m) m.s.ths i) (.lst 1 ((mkI (wz (kT (kb m) m.s.ths i)) (m.s.ths.getD i default).found.length).map iA)) (.lst 1 ((m.s.ths.getD i default).free.map iA)) (.lst 4 ((m.s.ths.getD i default).buf.map entA)) (.lst 4 ((m.s.ths.getD i default).work.map entA)) (.lst 1 ((m.s.ths.getD i default).limbo.map iA))):=Zw hLt
        have hM:=hLt
        have x2:=@y2
        refine go ?_
        have hmkb:(mkI (qa (wz (kT (kb m) m.s.ths i)) (m.s.ths.getD i default)) (m.s.ths.getD i default).free.length).length=(m.s.ths.getD i default).free.length:=Uo
        dsimp only
        refine (Xb (fun e j=>(e.set 5 (.int .i64 (j:Int))).set 1 (.int .i64 (kS (qa (wz (kT (kb m) m.s.ths i)) (m.s.ths.getD i default)) 1 j))) (fun h j=>h.set 8 (some ⟨false,false,true,ty36.size,[(rowM m (xa m) (xb m) (.lst 19 (((mix (mkTs (kb m) m.s.ths) m.s.ths i).map thA).set i (rowW (kT (kb m) m.s.ths i) (.lst 1 ((mkI (wz (kT (kb m) m.s.ths i)) (m.s.ths.getD i default).found.length).map iA)) (.lst 1 ((mix (mkI (qa (wz (kT (kb m) m.s.ths i)) (m.s.ths.getD i default)) (m.s.ths.getD i default).free.length) (m.s.ths.getD i default).free j).map iA)) (.lst 4 ((m.s.ths.getD i default).buf.map entA)) (.lst 4 ((m.s.ths.getD i default).work.map entA)) (.lst 1 ((m.s.ths.getD i default).limbo.map iA))))) (Yt m.progs) (Xl m.next) (evsA m.evs))]⟩)) (fun _=>some ⟨.bool true,[]⟩) (m.s.ths.getD i default).free.length (by show _<18446744073709551616;omega) (by rw [Zd,kS_zero];first | done | rfl) ?_).trans rfl
        intro j fb hjb IHb
        have hkb:=kS_w (K:=(qa (wz (kT (kb m) m.s.ths i)) (m.s.ths.getD i default))) (c:=1) (j:=j) q1 z1 (by decide) (by decide) (by omega)
        by_cases hlj:j<(m.s.ths.getD i default).free.length
        ·have d0:j<(mix (mkI (qa (wz (kT (kb m) m.s.ths i)) (m.s.ths.getD i default)) (m.s.ths.getD i default).free.length) (m.s.ths.getD i default).free j).length:=by rw [Yg hmkb (by omega)];exact hlj
         have d1:=Xf (f:=iA) d0
         have d2:=Xg j
         have r2:=Zv (f:=iA) hmkb hlj
         have r1:(((mix (mkTs (kb m) m.s.ths) m.s.ths i).map thA).set i (rowW (kT (kb m) m.s.ths i) (.lst 1 ((mkI (wz (kT (kb m) m.s.ths i)) (m.s.ths.getD i default).found.length).map iA)) (.lst 1 ((mix (mkI (qa (wz (kT (kb m) m.s.ths i)) (m.s.ths.getD i default)) (m.s.ths.getD i default).free.length) (m.s.ths.getD i default).free j).map iA)) (.lst 4 ((m.s.ths.getD i default).buf.map entA)) (.lst 4 ((m.s.ths.getD i default).work.map entA)) (.lst 1 ((m.s.ths.getD i default).limbo.map iA))))[i]?=some (rowW (kT (kb m) m.s.ths i) (.lst 1 ((mkI (wz (kT (kb m) m.s.ths i)) (m.s.ths.getD i default).found.length).map iA)) (.lst 1 ((mix (mkI (qa (wz (kT (kb m) m.s.ths i)) (m.s.ths.getD i default)) (m.s.ths.getD i default).free.length) (m.s.ths.getD i default).free j).map iA)) (.lst 4 ((m.s.ths.getD i default).buf.map entA)) (.lst 4 ((m.s.ths.getD i default).work.map entA)) (.lst 1 ((m.s.ths.getD i default).limbo.map iA))):=Zw hLt
         have hM:=hLt
         have hwj:=Xv (k:=j) (by omega)
         have w1:IntKind.i64.wrap (kS (qa (wz (kT (kb m) m.s.ths i)) (m.s.ths.getD i default)) 1 j+1)=kS (qa (wz (kT (kb m) m.s.ths i)) (m.s.ths.getD i default)) 1 (j+1):=by rw [Xc (by omega) (by omega),kS_succ];first | done | omega
         have hL:j<((mix (mkI (qa (wz (kT (kb m) m.s.ths i)) (m.s.ths.getD i default)) (m.s.ths.getD i default).free.length) (m.s.ths.getD i default).free j).map iA).length:=by rw [List.length_map];exact d0
         have st1:=r2
         refine go ?_
         clear st1
         exact IHb hlj _ _ (by rw [hwj,w1];rfl) (by rw [←Zy (f:=iA) hmkb hlj (U3 hlj)];first | done | rfl)
        ·have hj2:j=(m.s.ths.getD i default).free.length:=by omega
         have d1:decide ((j:Int)<(((mix (mkI (qa (wz (kT (kb m) m.s.ths i)) (m.s.ths.getD i default)) (m.s.ths.getD i default).free.length) (m.s.ths.getD i default).free j).map iA).length:Int))=false:=Xh (f:=iA) (by rw [Yg hmkb (by omega)];omega)
         clear IHb hlj
         rw [Zz hmkb hj2] at d1 ⊢
         subst hj2
         have r1:(((mix (mkTs (kb m) m.s.ths) m.s.ths i).map thA).set i (rowW (kT (kb m) m.s.ths i) (.lst 1 ((mkI (wz (kT (kb m) m.s.ths i)) (m.s.ths.getD i default).found.length).map iA)) (.lst 1 ((mkI (qa (wz (kT (kb m) m.s.ths i)) (m.s.ths.getD i default)) (m.s.ths.getD i default).free.length).map iA)) (.lst 4 ((m.s.ths.getD i default).buf.map entA)) (.lst 4 ((m.s.ths.getD i default).work.map entA)) (.lst 1 ((m.s.ths.getD i default).limbo.map iA))))[i]?=some (rowW (kT (kb m) m.s.ths i) (.lst 1 ((mkI (wz (kT (kb m) m.s.ths i)) (m.s.ths.getD i default).found.length).map iA)) (.lst 1 ((mkI (qa (wz (kT (kb m) m.s.ths i)) (m.s.ths.getD i default)) (m.s.ths.getD i default).free.length).map iA)) (.lst 4 ((m.s.ths.getD i default).buf.map entA)) (.lst 4 ((m.s.ths.getD i default).work.map entA)) (.lst 1 ((m.s.ths.getD i default).limbo.map iA))):=Zw hLt
         have hM:=hLt
         have x2:=@y2
         refine go ?_
         have hmkc:(mkE (qb (wz (kT (kb m) m.s.ths i)) (m.s.ths.getD i default)) (m.s.ths.getD i default).buf.length).length=(m.s.ths.getD i default).buf.length:=Xgj
         dsimp only
         refine (Xb (fun e j=>(e.set 5 (.int .i64 (j:Int))).set 1 (.int .i64 (kS (qb (wz (kT (kb m) m.s.ths i)) (m.s.ths.getD i default)) 4 j))) (fun h j=>h.set 8 (some ⟨false,false,true,ty36.size,[(rowM m (xa m) (xb m) (.lst 19 (((mix (mkTs (kb m) m.s.ths) m.s.ths i).map thA).set i (rowW (kT (kb m) m.s.ths i) (.lst 1 ((mkI (wz (kT (kb m) m.s.ths i)) (m.s.ths.getD i default).found.length).map iA)) (.lst 1 ((mkI (qa (wz (kT (kb m) m.s.ths i)) (m.s.ths.getD i default)) (m.s.ths.getD i default).free.length).map iA)) (.lst 4 ((mix (mkE (qb (wz (kT (kb m) m.s.ths i)) (m.s.ths.getD i default)) (m.s.ths.getD i default).buf.length) (m.s.ths.getD i default).buf j).map entA)) (.lst 4 ((m.s.ths.getD i default).work.map entA)) (.lst 1 ((m.s.ths.getD i default).limbo.map iA))))) (Yt m.progs) (Xl m.next) (evsA m.evs))]⟩)) (fun _=>some ⟨.bool true,[]⟩) (m.s.ths.getD i default).buf.length (by show _<18446744073709551616;omega) (by rw [Zd,kS_zero];first | done | rfl) ?_).trans rfl
         intro j fc hjc IHc
         have hkc:=kS_w (K:=(qb (wz (kT (kb m) m.s.ths i)) (m.s.ths.getD i default))) (c:=4) (j:=j) q2 z2 (by decide) (by decide) (by omega)
         by_cases hlj:j<(m.s.ths.getD i default).buf.length
         ·have d0:j<(mix (mkE (qb (wz (kT (kb m) m.s.ths i)) (m.s.ths.getD i default)) (m.s.ths.getD i default).buf.length) (m.s.ths.getD i default).buf j).length:=by rw [Yg hmkc (by omega)];exact hlj
          have d1:=Xf (f:=entA) d0
          have d2:=Xg j
          have r2:=Zv (f:=entA) hmkc hlj
          have r1:(((mix (mkTs (kb m) m.s.ths) m.s.ths i).map thA).set i (rowW (kT (kb m) m.s.ths i) (.lst 1 ((mkI (wz (kT (kb m) m.s.ths i)) (m.s.ths.getD i default).found.length).map iA)) (.lst 1 ((mkI (qa (wz (kT (kb m) m.s.ths i)) (m.s.ths.getD i default)) (m.s.ths.getD i default).free.length).map iA)) (.lst 4 ((mix (mkE (qb (wz (kT (kb m) m.s.ths i)) (m.s.ths.getD i default)) (m.s.ths.getD i default).buf.length) (m.s.ths.getD i default).buf j).map entA)) (.lst 4 ((m.s.ths.getD i default).work.map entA)) (.lst 1 ((m.s.ths.getD i default).limbo.map iA))))[i]?=some (rowW (kT (kb m) m.s.ths i) (.lst 1 ((mkI (wz (kT (kb m) m.s.ths i)) (m.s.ths.getD i default).found.length).map iA)) (.lst 1 ((mkI (qa (wz (kT (kb m) m.s.ths i)) (m.s.ths.getD i default)) (m.s.ths.getD i default).free.length).map iA)) (.lst 4 ((mix (mkE (qb (wz (kT (kb m) m.s.ths i)) (m.s.ths.getD i default)) (m.s.ths.getD i default).buf.length) (m.s.ths.getD i default).buf j).map entA)) (.lst 4 ((m.s.ths.getD i default).work.map entA)) (.lst 1 ((m.s.ths.getD i default).limbo.map iA))):=Zw hLt
          have hM:=hLt
          have hwj:=Xv (k:=j) (by omega)
          have w1:IntKind.i64.wrap (kS (qb (wz (kT (kb m) m.s.ths i)) (m.s.ths.getD i default)) 4 j+1)=kS (qb (wz (kT (kb m) m.s.ths i)) (m.s.ths.getD i default)) 4 j+1:=by rw [Xc (by omega) (by omega)];first | done | omega
          have w2:IntKind.i64.wrap (kS (qb (wz (kT (kb m) m.s.ths i)) (m.s.ths.getD i default)) 4 j+1+1)=kS (qb (wz (kT (kb m) m.s.ths i)) (m.s.ths.getD i default)) 4 j+2:=by rw [Xc (by omega) (by omega)];first | done | omega
          have w3:IntKind.i64.wrap (kS (qb (wz (kT (kb m) m.s.ths i)) (m.s.ths.getD i default)) 4 j+2+1)=kS (qb (wz (kT (kb m) m.s.ths i)) (m.s.ths.getD i default)) 4 j+3:=by rw [Xc (by omega) (by omega)];first | done | omega
          have w4:IntKind.i64.wrap (kS (qb (wz (kT (kb m) m.s.ths i)) (m.s.ths.getD i default)) 4 j+3+1)=kS (qb (wz (kT (kb m) m.s.ths i)) (m.s.ths.getD i default)) 4 (j+1):=by rw [Xc (by omega) (by omega),kS_succ];first | done | omega
          have hL:j<((mix (mkE (qb (wz (kT (kb m) m.s.ths i)) (m.s.ths.getD i default)) (m.s.ths.getD i default).buf.length) (m.s.ths.getD i default).buf j).map entA).length:=by rw [List.length_map];exact d0
          have d3:∀ row,decide ((j:Int)<((((mix (mkE (qb (wz (kT (kb m) m.s.ths i)) (m.s.ths.getD i default)) (m.s.ths.getD i default).buf.length) (m.s.ths.getD i default).buf j).map entA).set j row).length:Int))=true:=fun row=>by rw [List.length_set];exact d1
          have x1:=fun {row:List AV} {x y:R}=>Xn (x:=x) (y:=y) (d3 row)
          have st1:=r2
          refine go ?_
          clear st1
          exact IHc hlj _ _ (by rw [hwj,w1,w2,w3,w4];rfl) (by rw [←Zy (f:=entA) hmkc hlj (Xi8 hlj)];rw [w1,w2,w3];first | done | rfl)
         ·have hj2:j=(m.s.ths.getD i default).buf.length:=by omega
          have d1:decide ((j:Int)<(((mix (mkE (qb (wz (kT (kb m) m.s.ths i)) (m.s.ths.getD i default)) (m.s.ths.getD i default).buf.length) (m.s.ths.getD i default).buf j).map entA).length:Int))=false:=Xh (f:=entA) (by rw [Yg hmkc (by omega)];omega)
          clear IHc hlj
          rw [Zz hmkc hj2] at d1 ⊢
          subst hj2
          have r1:(((mix (mkTs (kb m) m.s.ths) m.s.ths i).map thA).set i (rowW (kT (kb m) m.s.ths i) (.lst 1 ((mkI (wz (kT (kb m) m.s.ths i)) (m.s.ths.getD i default).found.length).map iA)) (.lst 1 ((mkI (qa (wz (kT (kb m) m.s.ths i)) (m.s.ths.getD i default)) (m.s.ths.getD i default).free.length).map iA)) (.lst 4 ((mkE (qb (wz (kT (kb m) m.s.ths i)) (m.s.ths.getD i default)) (m.s.ths.getD i default).buf.length).map entA)) (.lst 4 ((m.s.ths.getD i default).work.map entA)) (.lst 1 ((m.s.ths.getD i default).limbo.map iA))))[i]?=some (rowW (kT (kb m) m.s.ths i) (.lst 1 ((mkI (wz (kT (kb m) m.s.ths i)) (m.s.ths.getD i default).found.length).map iA)) (.lst 1 ((mkI (qa (wz (kT (kb m) m.s.ths i)) (m.s.ths.getD i default)) (m.s.ths.getD i default).free.length).map iA)) (.lst 4 ((mkE (qb (wz (kT (kb m) m.s.ths i)) (m.s.ths.getD i default)) (m.s.ths.getD i default).buf.length).map entA)) (.lst 4 ((m.s.ths.getD i default).work.map entA)) (.lst 1 ((m.s.ths.getD i default).limbo.map iA))):=Zw hLt
          have hM:=hLt
          have x2:=@y2
          refine go ?_
          have hmkd:(mkE (qc (wz (kT (kb m) m.s.ths i)) (m.s.ths.getD i default)) (m.s.ths.getD i default).work.length).length=(m.s.ths.getD i default).work.length:=Xgj
          dsimp only
          refine (Xb (fun e j=>(e.set 5 (.int .i64 (j:Int))).set 1 (.int .i64 (kS (qc (wz (kT (kb m) m.s.ths i)) (m.s.ths.getD i default)) 4 j))) (fun h j=>h.set 8 (some ⟨false,false,true,ty36.size,[(rowM m (xa m) (xb m) (.lst 19 (((mix (mkTs (kb m) m.s.ths) m.s.ths i).map thA).set i (rowW (kT (kb m) m.s.ths i) (.lst 1 ((mkI (wz (kT (kb m) m.s.ths i)) (m.s.ths.getD i default).found.length).map iA)) (.lst 1 ((mkI (qa (wz (kT (kb m) m.s.ths i)) (m.s.ths.getD i default)) (m.s.ths.getD i default).free.length).map iA)) (.lst 4 ((mkE (qb (wz (kT (kb m) m.s.ths i)) (m.s.ths.getD i default)) (m.s.ths.getD i default).buf.length).map entA)) (.lst 4 ((mix (mkE (qc (wz (kT (kb m) m.s.ths i)) (m.s.ths.getD i default)) (m.s.ths.getD i default).work.length) (m.s.ths.getD i default).work j).map entA)) (.lst 1 ((m.s.ths.getD i default).limbo.map iA))))) (Yt m.progs) (Xl m.next) (evsA m.evs))]⟩)) (fun _=>some ⟨.bool true,[]⟩) (m.s.ths.getD i default).work.length (by show _<18446744073709551616;omega) (by rw [Zd,kS_zero];first | done | rfl) ?_).trans rfl
          intro j fd hjd IHd
          have hkd:=kS_w (K:=(qc (wz (kT (kb m) m.s.ths i)) (m.s.ths.getD i default))) (c:=4) (j:=j) q3 z3 (by decide) (by decide) (by omega)
          by_cases hlj:j<(m.s.ths.getD i default).work.length
          ·have d0:j<(mix (mkE (qc (wz (kT (kb m) m.s.ths i)) (m.s.ths.getD i default)) (m.s.ths.getD i default).work.length) (m.s.ths.getD i default).work j).length:=by rw [Yg hmkd (by omega)];exact hlj
           have d1:=Xf (f:=entA) d0
           have d2:=Xg j
           have r2:=Zv (f:=entA) hmkd hlj
           have r1:(((mix (mkTs (kb m) m.s.ths) m.s.ths i).map thA).set i (rowW (kT (kb m) m.s.ths i) (.lst 1 ((mkI (wz (kT (kb m) m.s.ths i)) (m.s.ths.getD i default).found.length).map iA)) (.lst 1 ((mkI (qa (wz (kT (kb m) m.s.ths i)) (m.s.ths.getD i default)) (m.s.ths.getD i default).free.length).map iA)) (.lst 4 ((mkE (qb (wz (kT (kb m) m.s.ths i)) (m.s.ths.getD i default)) (m.s.ths.getD i default).buf.length).map entA)) (.lst 4 ((mix (mkE (qc (wz (kT (kb m) m.s.ths i)) (m.s.ths.getD i default)) (m.s.ths.getD i default).work.length) (m.s.ths.getD i default).work j).map entA)) (.lst 1 ((m.s.ths.getD i default).limbo.map iA))))[i]?=some (rowW (kT (kb m) m.s.ths i) (.lst 1 ((mkI (wz (kT (kb m) m.s.ths i)) (m.s.ths.getD i default).found.length).map iA)) (.lst 1 ((mkI (qa (wz (kT (kb m) m.s.ths i)) (m.s.ths.getD i default)) (m.s.ths.getD i default).free.length).map iA)) (.lst 4 ((mkE (qb (wz (kT (kb m) m.s.ths i)) (m.s.ths.getD i default)) (m.s.ths.getD i default).buf.length).map entA)) (.lst 4 ((mix (mkE (qc (wz (kT (kb m) m.s.ths i)) (m.s.ths.getD i default)) (m.s.ths.getD i default).work.length) (m.s.ths.getD i default).work j).map entA)) (.lst 1 ((m.s.ths.getD i default).limbo.map iA))):=Zw hLt
           have hM:=hLt
           have hwj:=Xv (k:=j) (by omega)
           have w1:IntKind.i64.wrap (kS (qc (wz (kT (kb m) m.s.ths i)) (m.s.ths.getD i default)) 4 j+1)=kS (qc (wz (kT (kb m) m.s.ths i)) (m.s.ths.getD i default)) 4 j+1:=by rw [Xc (by omega) (by omega)];first | done | omega
           have w2:IntKind.i64.wrap (kS (qc (wz (kT (kb m) m.s.ths i)) (m.s.ths.getD i default)) 4 j+1+1)=kS (qc (wz (kT (kb m) m.s.ths i)) (m.s.ths.getD i default)) 4 j+2:=by rw [Xc (by omega) (by omega)];first | done | omega
           have w3:IntKind.i64.wrap (kS (qc (wz (kT (kb m) m.s.ths i)) (m.s.ths.getD i default)) 4 j+2+1)=kS (qc (wz (kT (kb m) m.s.ths i)) (m.s.ths.getD i default)) 4 j+3:=by rw [Xc (by omega) (by omega)];first | done | omega
           have w4:IntKind.i64.wrap (kS (qc (wz (kT (kb m) m.s.ths i)) (m.s.ths.getD i default)) 4 j+3+1)=kS (qc (wz (kT (kb m) m.s.ths i)) (m.s.ths.getD i default)) 4 (j+1):=by rw [Xc (by omega) (by omega),kS_succ];first | done | omega
           have hL:j<((mix (mkE (qc (wz (kT (kb m) m.s.ths i)) (m.s.ths.getD i default)) (m.s.ths.getD i default).work.length) (m.s.ths.getD i default).work j).map entA).length:=by rw [List.length_map];exact d0
           have d3:∀ row,decide ((j:Int)<((((mix (mkE (qc (wz (kT (kb m) m.s.ths i)) (m.s.ths.getD i default)) (m.s.ths.getD i default).work.length) (m.s.ths.getD i default).work j).map entA).set j row).length:Int))=true:=fun row=>by rw [List.length_set];exact d1
           have x1:=fun {row:List AV} {x y:R}=>Xn (x:=x) (y:=y) (d3 row)
           have st1:=r2
           refine go ?_
           clear st1
           exact IHd hlj _ _ (by rw [hwj,w1,w2,w3,w4];rfl) (by rw [←Zy (f:=entA) hmkd hlj (Xi8 hlj)];rw [w1,w2,w3];first | done | rfl)
          ·have hj2:j=(m.s.ths.getD i default).work.length:=by omega
           have d1:decide ((j:Int)<(((mix (mkE (qc (wz (kT (kb m) m.s.ths i)) (m.s.ths.getD i default)) (m.s.ths.getD i default).work.length) (m.s.ths.getD i default).work j).map entA).length:Int))=false:=Xh (f:=entA) (by rw [Yg hmkd (by omega)];omega)
           clear IHd hlj
           rw [Zz hmkd hj2] at d1 ⊢
           subst hj2
           have r1:(((mix (mkTs (kb m) m.s.ths) m.s.ths i).map thA).set i (rowW (kT (kb m) m.s.ths i) (.lst 1 ((mkI (wz (kT (kb m) m.s.ths i)) (m.s.ths.getD i default).found.length).map iA)) (.lst 1 ((mkI (qa (wz (kT (kb m) m.s.ths i)) (m.s.ths.getD i default)) (m.s.ths.getD i default).free.length).map iA)) (.lst 4 ((mkE (qb (wz (kT (kb m) m.s.ths i)) (m.s.ths.getD i default)) (m.s.ths.getD i default).buf.length).map entA)) (.lst 4 ((mkE (qc (wz (kT (kb m) m.s.ths i)) (m.s.ths.getD i default)) (m.s.ths.getD i default).work.length).map entA)) (.lst 1 ((m.s.ths.getD i default).limbo.map iA))))[i]?=some (rowW (kT (kb m) m.s.ths i) (.lst 1 ((mkI (wz (kT (kb m) m.s.ths i)) (m.s.ths.getD i default).found.length).map iA)) (.lst 1 ((mkI (qa (wz (kT (kb m) m.s.ths i)) (m.s.ths.getD i default)) (m.s.ths.getD i default).free.length).map iA)) (.lst 4 ((mkE (qb (wz (kT (kb m) m.s.ths i)) (m.s.ths.getD i default)) (m.s.ths.getD i default).buf.length).map entA)) (.lst 4 ((mkE (qc (wz (kT (kb m) m.s.ths i)) (m.s.ths.getD i default)) (m.s.ths.getD i default).work.length).map entA)) (.lst 1 ((m.s.ths.getD i default).limbo.map iA))):=Zw hLt
           have hM:=hLt
           have x2:=@y2
           refine go ?_
           have hmke:(mkI (qd (wz (kT (kb m) m.s.ths i)) (m.s.ths.getD i default)) (m.s.ths.getD i default).limbo.length).length=(m.s.ths.getD i default).limbo.length:=Uo
           dsimp only
           refine (Xb (fun e j=>(e.set 5 (.int .i64 (j:Int))).set 1 (.int .i64 (kS (qd (wz (kT (kb m) m.s.ths i)) (m.s.ths.getD i default)) 1 j))) (fun h j=>h.set 8 (some ⟨false,false,true,ty36.size,[(rowM m (xa m) (xb m) (.lst 19 (((mix (mkTs (kb m) m.s.ths) m.s.ths i).map thA).set i (rowW (kT (kb m) m.s.ths i) (.lst 1 ((mkI (wz (kT (kb m) m.s.ths i)) (m.s.ths.getD i default).found.length).map iA)) (.lst 1 ((mkI (qa (wz (kT (kb m) m.s.ths i)) (m.s.ths.getD i default)) (m.s.ths.getD i default).free.length).map iA)) (.lst 4 ((mkE (qb (wz (kT (kb m) m.s.ths i)) (m.s.ths.getD i default)) (m.s.ths.getD i default).buf.length).map entA)) (.lst 4 ((mkE (qc (wz (kT (kb m) m.s.ths i)) (m.s.ths.getD i default)) (m.s.ths.getD i default).work.length).map entA)) (.lst 1 ((mix (mkI (qd (wz (kT (kb m) m.s.ths i)) (m.s.ths.getD i default)) (m.s.ths.getD i default).limbo.length) (m.s.ths.getD i default).limbo j).map iA))))) (Yt m.progs) (Xl m.next) (evsA m.evs))]⟩)) (fun _=>some ⟨.bool true,[]⟩) (m.s.ths.getD i default).limbo.length (by show _<18446744073709551616;omega) (by rw [Zd,kS_zero];first | done | rfl) ?_).trans rfl
           intro j fe hje IHe
           have hke:=kS_w (K:=(qd (wz (kT (kb m) m.s.ths i)) (m.s.ths.getD i default))) (c:=1) (j:=j) q4 z4 (by decide) (by decide) (by omega)
           by_cases hlj:j<(m.s.ths.getD i default).limbo.length
           ·have d0:j<(mix (mkI (qd (wz (kT (kb m) m.s.ths i)) (m.s.ths.getD i default)) (m.s.ths.getD i default).limbo.length) (m.s.ths.getD i default).limbo j).length:=by rw [Yg hmke (by omega)];exact hlj
            have d1:=Xf (f:=iA) d0
            have d2:=Xg j
            have r2:=Zv (f:=iA) hmke hlj
            have r1:(((mix (mkTs (kb m) m.s.ths) m.s.ths i).map thA).set i (rowW (kT (kb m) m.s.ths i) (.lst 1 ((mkI (wz (kT (kb m) m.s.ths i)) (m.s.ths.getD i default).found.length).map iA)) (.lst 1 ((mkI (qa (wz (kT (kb m) m.s.ths i)) (m.s.ths.getD i default)) (m.s.ths.getD i default).free.length).map iA)) (.lst 4 ((mkE (qb (wz (kT (kb m) m.s.ths i)) (m.s.ths.getD i default)) (m.s.ths.getD i default).buf.length).map entA)) (.lst 4 ((mkE (qc (wz (kT (kb m) m.s.ths i)) (m.s.ths.getD i default)) (m.s.ths.getD i default).work.length).map entA)) (.lst 1 ((mix (mkI (qd (wz (kT (kb m) m.s.ths i)) (m.s.ths.getD i default)) (m.s.ths.getD i default).limbo.length) (m.s.ths.getD i default).limbo j).map iA))))[i]?=some (rowW (kT (kb m) m.s.ths i) (.lst 1 ((mkI (wz (kT (kb m) m.s.ths i)) (m.s.ths.getD i default).found.length).map iA)) (.lst 1 ((mkI (qa (wz (kT (kb m) m.s.ths i)) (m.s.ths.getD i default)) (m.s.ths.getD i default).free.length).map iA)) (.lst 4 ((mkE (qb (wz (kT (kb m) m.s.ths i)) (m.s.ths.getD i default)) (m.s.ths.getD i default).buf.length).map entA)) (.lst 4 ((mkE (qc (wz (kT (kb m) m.s.ths i)) (m.s.ths.getD i default)) (m.s.ths.getD i default).work.length).map entA)) (.lst 1 ((mix (mkI (qd (wz (kT (kb m) m.s.ths i)) (m.s.ths.getD i default)) (m.s.ths.getD i default).limbo.length) (m.s.ths.getD i default).limbo j).map iA))):=Zw hLt
            have hM:=hLt
            have hwj:=Xv (k:=j) (by omega)
            have w1:IntKind.i64.wrap (kS (qd (wz (kT (kb m) m.s.ths i)) (m.s.ths.getD i default)) 1 j+1)=kS (qd (wz (kT (kb m) m.s.ths i)) (m.s.ths.getD i default)) 1 (j+1):=by rw [Xc (by omega) (by omega),kS_succ];first | done | omega
            have hL:j<((mix (mkI (qd (wz (kT (kb m) m.s.ths i)) (m.s.ths.getD i default)) (m.s.ths.getD i default).limbo.length) (m.s.ths.getD i default).limbo j).map iA).length:=by rw [List.length_map];exact d0
            have st1:=r2
            refine go ?_
            clear st1
            exact IHe hlj _ _ (by rw [hwj,w1];rfl) (by rw [←Zy (f:=iA) hmke hlj (U3 hlj)];first | done | rfl)
           ·have hj2:j=(m.s.ths.getD i default).limbo.length:=by omega
            have d1:decide ((j:Int)<(((mix (mkI (qd (wz (kT (kb m) m.s.ths i)) (m.s.ths.getD i default)) (m.s.ths.getD i default).limbo.length) (m.s.ths.getD i default).limbo j).map iA).length:Int))=false:=Xh (f:=iA) (by rw [Yg hmke (by omega)];omega)
            clear IHe hlj
            rw [Zz hmke hj2] at d1 ⊢
            subst hj2
            have r1:(((mix (mkTs (kb m) m.s.ths) m.s.ths i).map thA).set i (rowW (kT (kb m) m.s.ths i) (.lst 1 ((mkI (wz (kT (kb m) m.s.ths i)) (m.s.ths.getD i default).found.length).map iA)) (.lst 1 ((mkI (qa (wz (kT (kb m) m.s.ths i)) (m.s.ths.getD i default)) (m.s.ths.getD i default).free.length).map iA)) (.lst 4 ((mkE (qb (wz (kT (kb m) m.s.ths i)) (m.s.ths.getD i default)) (m.s.ths.getD i default).buf.length).map entA)) (.lst 4 ((mkE (qc (wz (kT (kb m) m.s.ths i)) (m.s.ths.getD i default)) (m.s.ths.getD i default).work.length).map entA)) (.lst 1 ((mkI (qd (wz (kT (kb m) m.s.ths i)) (m.s.ths.getD i default)) (m.s.ths.getD i default).limbo.length).map iA))))[i]?=some (rowW (kT (kb m) m.s.ths i) (.lst 1 ((mkI (wz (kT (kb m) m.s.ths i)) (m.s.ths.getD i default).found.length).map iA)) (.lst 1 ((mkI (qa (wz (kT (kb m) m.s.ths i)) (m.s.ths.getD i default)) (m.s.ths.getD i default).free.length).map iA)) (.lst 4 ((mkE (qb (wz (kT (kb m) m.s.ths i)) (m.s.ths.getD i default)) (m.s.ths.getD i default).buf.length).map entA)) (.lst 4 ((mkE (qc (wz (kT (kb m) m.s.ths i)) (m.s.ths.getD i default)) (m.s.ths.getD i default).work.length).map entA)) (.lst 1 ((mkI (qd (wz (kT (kb m) m.s.ths i)) (m.s.ths.getD i default)) (m.s.ths.getD i default).limbo.length).map iA))):=Zw hLt
            have hM:=hLt
            have x2:=@y2
            refine go ?_
            exact IHT hli _ _ (by rw [hwi,kEq];rfl) (by rw [←Zy (f:=thA) hmkT hli (Xnl hli),thEq];first | done | rfl)
      ·have hi2:i=m.s.ths.length:=by omega
       have d1:decide ((i:Int)<(((mix (mkTs (kb m) m.s.ths) m.s.ths i).map thA).length:Int))=false:=Xh (f:=thA) (by rw [Yg hmkT (by omega)];omega)
       clear IHT hli
       rw [Zz hmkT hi2] at d1 ⊢
       subst hi2
       refine go ?_
       have hmkO:(mkOs (kc m) m.progs).length=m.progs.length:=Xja
       dsimp only
       refine (Xb (fun e i=>(e.set 5 (.int .i64 (i:Int))).set 1 (.int .i64 (kO (kc m) m.progs i))) (fun h i=>h.set 8 (some ⟨false,false,true,ty36.size,[(rowM m (xa m) (xb m) (xc m) (.lst 1 ((mix (mkOs (kc m) m.progs) m.progs i).map Xp)) (Xl m.next) (evsA m.evs))]⟩)) (fun _=>some ⟨.bool true,[]⟩) m.progs.length (by show _<18446744073709551616;omega) (by rw [Zd,kO_zero];first | done | rfl) ?_).trans rfl
       intro i fO hi IHO
       have ko:=Xpl (K:=(kc m)) (l:=m.progs) a3.1 h3 hi
       by_cases hli:i<m.progs.length
       ·have d0:i<(mix (mkOs (kc m) m.progs) m.progs i).length:=by rw [Yg hmkO (by omega)];exact hli
        have d1:=Xf (f:=Xp) d0
        have do1:=d1
        have d2:=Xg i
        have dZ:=Xg i
        have r1:=Zv (f:=Xp) hmkO hli
        have hwi:=Xv (k:=i) (by omega)
        have hLo:i<((mix (mkOs (kc m) m.progs) m.progs i).map Xp).length:=by rw [List.length_map];exact d0
        have hpl:=h3 _ (Xi hli)
        refine go ?_
        have hmkp:(mkO (kO (kc m) m.progs i) (m.progs.getD i default).length).length=(m.progs.getD i default).length:=Xlq
        dsimp only
        refine (Xb (fun e j=>(e.set 5 (.int .i64 (j:Int))).set 1 (.int .i64 (kS (kO (kc m) m.progs i) 3 j))) (fun h j=>h.set 8 (some ⟨false,false,true,ty36.size,[(rowM m (xa m) (xb m) (xc m) (.lst 1 (((mix (mkOs (kc m) m.progs) m.progs i).map Xp).set i [(.lst 3 ((mix (mkO (kO (kc m) m.progs i) (m.progs.getD i default).length) (m.progs.getD i default) j).map opA))])) (Xl m.next) (evsA m.evs))]⟩)) (fun _=>some ⟨.bool true,[]⟩) (m.progs.getD i default).length (by show _<18446744073709551616;omega) (by rw [Zd,kS_zero];rw [show ((mix (mkOs (kc m) m.progs) m.progs i).map Xp).set i [.lst 3 ((m.progs.getD i default).map opA)]=(mix (mkOs (kc m) m.progs) m.progs i).map Xp from Xs4 (f:=Xp) hmkO hli];first | done | rfl) ?_).trans rfl
        intro j fp hjp IHp
        have hkp:=kS_w (K:=(kO (kc m) m.progs i)) (c:=3) (j:=j) ko.1 (by omega) (by decide) (by decide) (by omega)
        by_cases hlj:j<(m.progs.getD i default).length
        ·have d0:j<(mix (mkO (kO (kc m) m.progs i) (m.progs.getD i default).length) (m.progs.getD i default) j).length:=by rw [Yg hmkp (by omega)];exact hlj
         have d1:=Xf (f:=opA) d0
         have d2:=Xg j
         have r2:=Zv (f:=opA) hmkp hlj
         have r1:(((mix (mkOs (kc m) m.progs) m.progs i).map Xp).set i [(.lst 3 ((mix (mkO (kO (kc m) m.progs i) (m.progs.getD i default).length) (m.progs.getD i default) j).map opA))])[i]?=some [(.lst 3 ((mix (mkO (kO (kc m) m.progs i) (m.progs.getD i default).length) (m.progs.getD i default) j).map opA))]:=Zw hLo
         have hM:=hLo
         have hwj:=Xv (k:=j) (by omega)
         have w1:IntKind.i64.wrap (kS (kO (kc m) m.progs i) 3 j+1)=kS (kO (kc m) m.progs i) 3 j+1:=by rw [Xc (by omega) (by omega)];first | done | omega
         have w2:IntKind.i64.wrap (kS (kO (kc m) m.progs i) 3 j+1+1)=kS (kO (kc m) m.progs i) 3 j+2:=by rw [Xc (by omega) (by omega)];first | done | omega
         have w3:IntKind.i64.wrap (kS (kO (kc m) m.progs i) 3 j+2+1)=kS (kO (kc m) m.progs i) 3 (j+1):=by rw [Xc (by omega) (by omega),kS_succ];first | done | omega
         have hL:j<((mix (mkO (kO (kc m) m.progs i) (m.progs.getD i default).length) (m.progs.getD i default) j).map opA).length:=by rw [List.length_map];exact d0
         have d3:∀ row,decide ((j:Int)<((((mix (mkO (kO (kc m) m.progs i) (m.progs.getD i default).length) (m.progs.getD i default) j).map opA).set j row).length:Int))=true:=fun row=>by rw [List.length_set];exact d1
         have x1:=fun {row:List AV} {x y:R}=>Xn (x:=x) (y:=y) (d3 row)
         have st1:=r2
         refine go ?_
         clear st1
         exact IHp hlj _ _ (by rw [hwj,w1,w2,w3];rfl) (by rw [←Zy (f:=opA) hmkp hlj (Xq2 hlj)];rw [w1,w2];first | done | rfl)
        ·have hj2:j=(m.progs.getD i default).length:=by omega
         have d1:decide ((j:Int)<(((mix (mkO (kO (kc m) m.progs i) (m.progs.getD i default).length) (m.progs.getD i default) j).map opA).length:Int))=false:=Xh (f:=opA) (by rw [Yg hmkp (by omega)];omega)
         clear IHp hlj
         rw [Zz hmkp hj2] at d1 ⊢
         subst hj2
         have r1:(((mix (mkOs (kc m) m.progs) m.progs i).map Xp).set i [(.lst 3 ((mkO (kO (kc m) m.progs i) (m.progs.getD i default).length).map opA))])[i]?=some [(.lst 3 ((mkO (kO (kc m) m.progs i) (m.progs.getD i default).length).map opA))]:=Zw hLo
         have hM:=hLo
         have e1:decide ((i:Int)<((((mix (mkOs (kc m) m.progs) m.progs i).map Xp).set i [.lst 3 ((mkO (kO (kc m) m.progs i) (m.progs.getD i default).length).map opA)]).length:Int))=true:=by rw [List.length_set];exact do1
         refine go ?_
         exact IHO hli _ _ (by rw [hwi,kO_succ];rfl) (by rw [←Zy (f:=Xp) hmkO hli (Xnm hli)];first | done | rfl)
       ·have hi2:i=m.progs.length:=by omega
        have d1:decide ((i:Int)<(((mix (mkOs (kc m) m.progs) m.progs i).map Xp).length:Int))=false:=Xh (f:=Xp) (by rw [Yg hmkO (by omega)];omega)
        clear IHO hli
        rw [Zz hmkO hi2] at d1 ⊢
        subst hi2
        refine go ?_
        have hmkn:(mkI (kd m) m.next.length).length=m.next.length:=Uo
        dsimp only
        refine (Xb (fun e j=>(e.set 5 (.int .i64 (j:Int))).set 1 (.int .i64 (kS (kd m) 1 j))) (fun h j=>h.set 8 (some ⟨false,false,true,ty36.size,[(rowM m (xa m) (xb m) (xc m) (xd m) (.lst 1 ((mix (mkI (kd m) m.next.length) m.next j).map iA)) (evsA m.evs))]⟩)) (fun _=>some ⟨.bool true,[]⟩) m.next.length (by show _<18446744073709551616;omega) (by rw [Zd,kS_zero];first | done | rfl) ?_).trans rfl
        intro j fn hjn IHn
        have hkn:=kS_w (K:=(kd m)) (c:=1) (j:=j) a4.1 (by omega) (by decide) (by decide) (by omega)
        by_cases hlj:j<m.next.length
        ·have d0:j<(mix (mkI (kd m) m.next.length) m.next j).length:=by rw [Yg hmkn (by omega)];exact hlj
         have d1:=Xf (f:=iA) d0
         have d2:=Xg j
         have r2:=Zv (f:=iA) hmkn hlj
         have hwj:=Xv (k:=j) (by omega)
         have w1:IntKind.i64.wrap (kS (kd m) 1 j+1)=kS (kd m) 1 (j+1):=by rw [Xc (by omega) (by omega),kS_succ];first | done | omega
         have hL:j<((mix (mkI (kd m) m.next.length) m.next j).map iA).length:=by rw [List.length_map];exact d0
         have st1:=r2
         refine go ?_
         clear st1
         exact IHn hlj _ _ (by rw [hwj,w1];rfl) (by rw [←Zy (f:=iA) hmkn hlj (U3 hlj)];first | done | rfl)
        ·have hj2:j=m.next.length:=by omega
         have d1:decide ((j:Int)<(((mix (mkI (kd m) m.next.length) m.next j).map iA).length:Int))=false:=Xh (f:=iA) (by rw [Yg hmkn (by omega)];omega)
         clear IHn hlj
         rw [Zz hmkn hj2] at d1 ⊢
         subst hj2
         refine go ?_
         have hmkv:(mkV (ke m) m.evs.length).length=m.evs.length:=Xlr
         dsimp only
         refine (Xb (fun e j=>(e.set 5 (.int .i64 (j:Int))).set 1 (.int .i64 (kS (ke m) 8 j))) (fun h j=>h.set 8 (some ⟨false,false,true,ty36.size,[(rowM m (xa m) (xb m) (xc m) (xd m) (xe m) (.lst 8 ((mix (mkV (ke m) m.evs.length) m.evs j).map evA)))]⟩)) (fun _=>some ⟨.bool true,[]⟩) m.evs.length (by show _<18446744073709551616;omega) (by rw [Zd,kS_zero];first | done | rfl) ?_).trans rfl
         intro j fv hjv IHv
         have hkv:=kS_w (K:=(ke m)) (c:=8) (j:=j) a5.1 (by omega) (by decide) (by decide) (by omega)
         by_cases hlj:j<m.evs.length
         ·have d0:j<(mix (mkV (ke m) m.evs.length) m.evs j).length:=by rw [Yg hmkv (by omega)];exact hlj
          have d1:=Xf (f:=evA) d0
          have d2:=Xg j
          have r2:=Zv (f:=evA) hmkv hlj
          have hwj:=Xv (k:=j) (by omega)
          have w1:IntKind.i64.wrap (kS (ke m) 8 j+1)=kS (ke m) 8 j+1:=by rw [Xc (by omega) (by omega)];first | done | omega
          have w2:IntKind.i64.wrap (kS (ke m) 8 j+1+1)=kS (ke m) 8 j+2:=by rw [Xc (by omega) (by omega)];first | done | omega
          have w3:IntKind.i64.wrap (kS (ke m) 8 j+2+1)=kS (ke m) 8 j+3:=by rw [Xc (by omega) (by omega)];first | done | omega
          have w4:IntKind.i64.wrap (kS (ke m) 8 j+3+1)=kS (ke m) 8 j+4:=by rw [Xc (by omega) (by omega)];first | done | omega
          have w5:IntKind.i64.wrap (kS (ke m) 8 j+4+1)=kS (ke m) 8 j+5:=by rw [Xc (by omega) (by omega)];first | done | omega
          have w6:IntKind.i64.wrap (kS (ke m) 8 j+5+1)=kS (ke m) 8 j+6:=by rw [Xc (by omega) (by omega)];first | done | omega
          have w7:IntKind.i64.wrap (kS (ke m) 8 j+6+1)=kS (ke m) 8 j+7:=by rw [Xc (by omega) (by omega)];first | done | omega
          have w8:IntKind.i64.wrap (kS (ke m) 8 j+7+1)=kS (ke m) 8 (j+1):=by rw [Xc (by omega) (by omega),kS_succ];first | done | omega
          have hL:j<((mix (mkV (ke m) m.evs.length) m.evs j).map evA).length:=by rw [List.length_map];exact d0
          have d3:∀ row,decide ((j:Int)<((((mix (mkV (ke m) m.evs.length) m.evs j).map evA).set j row).length:Int))=true:=fun row=>by rw [List.length_set];exact d1
          have x1:=fun {row:List AV} {x y:R}=>Xn (x:=x) (y:=y) (d3 row)
          have st1:=r2
          refine go ?_
          clear st1
          exact IHv hlj _ _ (by rw [hwj,w1,w2,w3,w4,w5,w6,w7,w8];rfl) (by rw [←Zy (f:=evA) hmkv hlj (Xq3 hlj)];rw [w1,w2,w3,w4,w5,w6,w7];first | done | rfl)
         ·have hj2:j=m.evs.length:=by omega
          have d1:decide ((j:Int)<(((mix (mkV (ke m) m.evs.length) m.evs j).map evA).length:Int))=false:=Xh (f:=evA) (by rw [Yg hmkv (by omega)];omega)
          clear IHv hlj
          rw [Zz hmkv hj2] at d1 ⊢
          subst hj2
          have hH:=fun {n:Nat}=>Xcx (n:=n) hm
          have hq1:decide ((kf m)<0)=false:=decide_eq_false (by omega)
          have hq2:((kf m) !=(kf m))=false:=Yb rfl
          have fq11:=@hI
          have fq12:=@hH
          have fq1:=fun {n:Nat}=>Z0 (n:=n) hr
          have fq2:=fun {n:Nat}=>Va (n:=n) l1 l2 l3 l4 he
          refine goD ?_
          clear fq1 fq2
          try with_reducible rfl
          all_goals rfl
end Go.Proofs.YtbploohjimpcaaaGreat.A
