/- What the program's functions answer (Ib): no condition. -/
import Derived.Test.YtbploohjimpcaaaGreatLib3
import Derived.Test.YtbploohjimpcaaaGreatGa
import Derived.Test.YtbploohjimpcaaaGreatGh
set_option linter.unusedVariables false
set_option linter.unusedSimpArgs false
namespace Go.Abs
theorem evLoop_P {P:R→Prop} {n:Nat} {live:List Nat} {body:St→(Exit→St→R)→R} {c:Exit→St→R} {fuel:Nat} {e0:List AV} {s:List (List AV)} {hp:Heap} {σ:Type} (E:List AV→σ→List AV) (H:Heap→σ→Heap) (I:σ→Prop) (μ:σ→Nat) (x0:σ)
 (h0:(⟨E e0 x0,s,H hp x0⟩:St)=⟨e0,s,hp⟩) (i0:I x0) (hN:μ x0<fuel)
 (step:∀ x f,I x→(∀ y e' h',I y→μ y<μ x→e'=E e0 y→h'=H hp y→P (Ud n live body f ⟨e',s,h'⟩ c))→P (body ⟨E e0 x,s,H hp x⟩ fun x st=>match x with
  | .normal=>Xhs n live st fun st=>Ud n live body f st c
  | x=>c x st)):P (Ud n live body fuel ⟨e0,s,hp⟩ c):=by
 have main:∀ d x f,I x→μ x=d→d<f→P (Ud n live body f ⟨E e0 x,s,H hp x⟩ c):=by
  intro d
  induction d using Nat.strongRecOn with
  | ind d ih =>
    intro x f hI hd hf
    obtain ⟨f,rfl⟩:∃ m,f=m+1:=⟨f - 1,by omega⟩
    rw [Xcy]
    exact step x f hI (fun y e' h' hy hlt he hh=>by rw [he,hh];exact ih (μ y) (by omega) y f hy rfl (by omega))
 rw [←h0]
 exact main (μ x0) x0 fuel i0 rfl hN
theorem goX {P:R→Prop} {x y:R} (k:P y) (h:Ru x (W y):=by (repeat' ((conv=>arg 1;whnf);first | (with_reducible first | apply Ru.st (Vb) | apply Ru.st (V1) | apply Ru.st (Xcb) | apply Ru.st (V2) | apply Ru.st (Qx) | apply Ru.st (Up) | apply Ru.st (Qy) | apply Ru.st (Qz) | apply Ru.st (Xcc) | apply Ru.st (Qv) | apply Ru.st (Qw) | apply Ru.st (Wl) | apply Ru.st (Vc)) | ((with_reducible show Ru (Go.Abs.br _ _ _) _);first | (with_reducible first | apply Ru.st (Vn _ _) | apply Ru.st (Wk _ _) | (apply Ru.pos;assumption) | (apply Ru.neg;assumption) | (apply Ru.nt;assumption) | (apply Ru.nf;assumption)) | refine Ru.st (x1) ?_ | refine Ru.st (x2) ?_ | refine Ru.st (x3) ?_ | refine Ru.st (x4) ?_ | refine Ru.st (x5) ?_ | refine Ru.st (x6) ?_ | refine Ru.st (x7) ?_ | refine Ru.st (x8) ?_ | (with_reducible apply Ru.pos;with_unfolding_all rfl) | (with_reducible apply Ru.neg;with_unfolding_all rfl)) | ((with_reducible show Ru (Go.Abs.bnd _ _) _);with_reducible first | apply Ru.st (Xd fq1) | apply Ru.st (Xd fq2) | apply Ru.st (Xd fq3) | apply Ru.st (Xd fq4) | apply Ru.st (Xd fq5) | apply Ru.st (Xd fq6) | apply Ru.st (Xd fq7) | apply Ru.st (Xd fq8) | apply Ru.st (Xd fq9) | apply Ru.st (Xd fq10) | apply Ru.st (Xd fq11) | apply Ru.st (Xd fq12) | apply Ru.st (Xd fq13) | apply Ru.st (Xd fq14)) | ((with_reducible show Ru (Go.Abs.Z6 _ _ _) _);first | (with_reducible first | (apply Ru.row r0;with_unfolding_all rfl) | (apply Ru.row r1;with_unfolding_all rfl) | (apply Ru.row r2;with_unfolding_all rfl) | (apply Ru.row r3;with_unfolding_all rfl) | (apply Ru.row r4;with_unfolding_all rfl) | (apply Ru.row r5;with_unfolding_all rfl) | (apply Ru.row r6;with_unfolding_all rfl) | (apply Ru.row r7;with_unfolding_all rfl) | (apply Ru.row r8;with_unfolding_all rfl) | (apply Ru.row r9;with_unfolding_all rfl) | (apply Ru.rowS hL;with_unfolding_all rfl) | (apply Ru.rowS hM;with_unfolding_all rfl)) | refine Ru.st (x1) ?_ | refine Ru.st (x2) ?_ | refine Ru.st (x3) ?_ | refine Ru.st (x4) ?_ | refine Ru.st (x5) ?_ | refine Ru.st (x6) ?_ | refine Ru.st (x7) ?_ | refine Ru.st (x8) ?_) | ((with_reducible show Ru (Go.Abs.Ve _ _ _ _ _) _);first | (with_reducible first | (apply Ru.setS hL;with_unfolding_all rfl) | (apply Ru.setS hM;with_unfolding_all rfl) | (apply Ru.setA st1;with_unfolding_all rfl) | (apply Ru.setA st2;with_unfolding_all rfl) | (apply Ru.setA st3;with_unfolding_all rfl) | (apply Ru.setA st4;with_unfolding_all rfl)) | refine Ru.st (x1) ?_ | refine Ru.st (x2) ?_ | refine Ru.st (x3) ?_ | refine Ru.st (x4) ?_ | refine Ru.st (x5) ?_ | refine Ru.st (x6) ?_ | refine Ru.st (x7) ?_ | refine Ru.st (x8) ?_) | (with_reducible first | (apply Ru.nav r0;with_unfolding_all rfl) | (apply Ru.nav r1;with_unfolding_all rfl) | (apply Ru.nav r2;with_unfolding_all rfl) | (apply Ru.nav r3;with_unfolding_all rfl) | (apply Ru.nav r4;with_unfolding_all rfl) | (apply Ru.nav r5;with_unfolding_all rfl) | (apply Ru.nav r6;with_unfolding_all rfl) | (apply Ru.nav r7;with_unfolding_all rfl) | (apply Ru.nav r8;with_unfolding_all rfl) | (apply Ru.nav r9;with_unfolding_all rfl) | (apply Ru.mod r0;with_unfolding_all rfl) | (apply Ru.mod r1;with_unfolding_all rfl) | (apply Ru.mod r2;with_unfolding_all rfl) | (apply Ru.mod r3;with_unfolding_all rfl) | (apply Ru.mod r4;with_unfolding_all rfl) | (apply Ru.mod r5;with_unfolding_all rfl) | (apply Ru.mod r6;with_unfolding_all rfl) | (apply Ru.mod r7;with_unfolding_all rfl) | (apply Ru.mod r8;with_unfolding_all rfl) | (apply Ru.mod r9;with_unfolding_all rfl) | apply Ru.st (Qb _ _ _) | apply Ru.st (Qc _ _ _) | apply Ru.st (Xds) | apply Ru.st (Xdt)) | refine Ru.st (x1) ?_ | refine Ru.st (x2) ?_ | refine Ru.st (x3) ?_ | refine Ru.st (x4) ?_ | refine Ru.st (x5) ?_ | refine Ru.st (x6) ?_ | refine Ru.st (x7) ?_ | refine Ru.st (x8) ?_));all_goals (try ((try (conv=>arg 1;whnf));exact Ru.rf _))):P x:=by rw [h.eqW];exact k
theorem goXD {P:R→Prop} {x y:R} (k:P y) (h:Ru x (W y):=by (repeat' ((conv=>arg 1;whnf);first | ((with_reducible show Ru (Go.Abs.bndS _ _) _);with_reducible apply Ru.bndS) | ((with_reducible show Ru (some _) _);with_reducible exact Ru.enc _) | (with_reducible apply Ru.eqS;rfl) | with_reducible apply Ru.st (Xjg _ _ _ _ _ _) | with_reducible apply Ru.st (Xlz _ _ _ _ _ _) | with_reducible apply Ru.st (Xl0 _ _ _ _ _ _ _ _ _ _) | with_reducible apply Ru.st (Xl1 _ _ _ _ _ _ _ _) | with_reducible apply Ru.st (Xq9 _ _ _ _ _ _ _ _) | (with_reducible first | apply Ru.st (Vb) | apply Ru.st (V1) | apply Ru.st (Xcb) | apply Ru.st (V2) | apply Ru.st (Qx) | apply Ru.st (Up) | apply Ru.st (Qy) | apply Ru.st (Qz) | apply Ru.st (Xcc) | apply Ru.st (Qv) | apply Ru.st (Qw) | apply Ru.st (Wl) | apply Ru.st (Vc)) | ((with_reducible show Ru (Go.Abs.br _ _ _) _);first | (with_reducible first | apply Ru.st (Vn _ _) | apply Ru.st (Wk _ _) | (apply Ru.pos;assumption) | (apply Ru.neg;assumption) | (apply Ru.nt;assumption) | (apply Ru.nf;assumption)) | refine Ru.st (x1) ?_ | refine Ru.st (x2) ?_ | refine Ru.st (x3) ?_ | refine Ru.st (x4) ?_ | refine Ru.st (x5) ?_ | refine Ru.st (x6) ?_ | refine Ru.st (x7) ?_ | refine Ru.st (x8) ?_ | (with_reducible apply Ru.pos;with_unfolding_all rfl) | (with_reducible apply Ru.neg;with_unfolding_all rfl)) | ((with_reducible show Ru (Go.Abs.bnd _ _) _);with_reducible first | apply Ru.st (Xd fq1) | apply Ru.st (Xd fq2) | apply Ru.st (Xd fq3) | apply Ru.st (Xd fq4) | apply Ru.st (Xd fq5) | apply Ru.st (Xd fq6) | apply Ru.st (Xd fq7) | apply Ru.st (Xd fq8) | apply Ru.st (Xd fq9) | apply Ru.st (Xd fq10) | apply Ru.st (Xd fq11) | apply Ru.st (Xd fq12) | apply Ru.st (Xd fq13) | apply Ru.st (Xd fq14)) | ((with_reducible show Ru (Go.Abs.Z6 _ _ _) _);first | (with_reducible first | (apply Ru.row r0;with_unfolding_all rfl) | (apply Ru.row r1;with_unfolding_all rfl) | (apply Ru.row r2;with_unfolding_all rfl) | (apply Ru.row r3;with_unfolding_all rfl) | (apply Ru.row r4;with_unfolding_all rfl) | (apply Ru.row r5;with_unfolding_all rfl) | (apply Ru.row r6;with_unfolding_all rfl) | (apply Ru.row r7;with_unfolding_all rfl) | (apply Ru.row r8;with_unfolding_all rfl) | (apply Ru.row r9;with_unfolding_all rfl) | (apply Ru.rowS hL;with_unfolding_all rfl) | (apply Ru.rowS hM;with_unfolding_all rfl)) | refine Ru.st (x1) ?_ | refine Ru.st (x2) ?_ | refine Ru.st (x3) ?_ | refine Ru.st (x4) ?_ | refine Ru.st (x5) ?_ | refine Ru.st (x6) ?_ | refine Ru.st (x7) ?_ | refine Ru.st (x8) ?_) | ((with_reducible show Ru (Go.Abs.Ve _ _ _ _ _) _);first | (with_reducible first | (apply Ru.setS hL;with_unfolding_all rfl) | (apply Ru.setS hM;with_unfolding_all rfl) | (apply Ru.setA st1;with_unfolding_all rfl) | (apply Ru.setA st2;with_unfolding_all rfl) | (apply Ru.setA st3;with_unfolding_all rfl) | (apply Ru.setA st4;with_unfolding_all rfl)) | refine Ru.st (x1) ?_ | refine Ru.st (x2) ?_ | refine Ru.st (x3) ?_ | refine Ru.st (x4) ?_ | refine Ru.st (x5) ?_ | refine Ru.st (x6) ?_ | refine Ru.st (x7) ?_ | refine Ru.st (x8) ?_) | (with_reducible first | (apply Ru.nav r0;with_unfolding_all rfl) | (apply Ru.nav r1;with_unfolding_all rfl) | (apply Ru.nav r2;with_unfolding_all rfl) | (apply Ru.nav r3;with_unfolding_all rfl) | (apply Ru.nav r4;with_unfolding_all rfl) | (apply Ru.nav r5;with_unfolding_all rfl) | (apply Ru.nav r6;with_unfolding_all rfl) | (apply Ru.nav r7;with_unfolding_all rfl) | (apply Ru.nav r8;with_unfolding_all rfl) | (apply Ru.nav r9;with_unfolding_all rfl) | (apply Ru.mod r0;with_unfolding_all rfl) | (apply Ru.mod r1;with_unfolding_all rfl) | (apply Ru.mod r2;with_unfolding_all rfl) | (apply Ru.mod r3;with_unfolding_all rfl) | (apply Ru.mod r4;with_unfolding_all rfl) | (apply Ru.mod r5;with_unfolding_all rfl) | (apply Ru.mod r6;with_unfolding_all rfl) | (apply Ru.mod r7;with_unfolding_all rfl) | (apply Ru.mod r8;with_unfolding_all rfl) | (apply Ru.mod r9;with_unfolding_all rfl) | apply Ru.st (Qb _ _ _) | apply Ru.st (Qc _ _ _) | apply Ru.st (Xds) | apply Ru.st (Xdt)) | refine Ru.st (x1) ?_ | refine Ru.st (x2) ?_ | refine Ru.st (x3) ?_ | refine Ru.st (x4) ?_ | refine Ru.st (x5) ?_ | refine Ru.st (x6) ?_ | refine Ru.st (x7) ?_ | refine Ru.st (x8) ?_));all_goals (try ((try (conv=>arg 1;whnf));exact Ru.rf _))):P x:=by rw [h.eqW];exact k
theorem goXE {P:R→Prop} {x y:R} (k:P y) (h:Ru x (W y):=by (repeat' ((conv=>arg 1;whnf);first | (with_reducible apply Ru.eqS;rfl) | with_reducible apply Ru.st (Xjg _ _ _ _ _ _) | with_reducible apply Ru.st (Xlz _ _ _ _ _ _) | with_reducible apply Ru.st (Xl0 _ _ _ _ _ _ _ _ _ _) | with_reducible apply Ru.st (Xl1 _ _ _ _ _ _ _ _) | with_reducible apply Ru.st (Xq9 _ _ _ _ _ _ _ _) | (with_reducible first | apply Ru.st (Vb) | apply Ru.st (V1) | apply Ru.st (Xcb) | apply Ru.st (V2) | apply Ru.st (Qx) | apply Ru.st (Up) | apply Ru.st (Qy) | apply Ru.st (Qz) | apply Ru.st (Xcc) | apply Ru.st (Qv) | apply Ru.st (Qw) | apply Ru.st (Wl) | apply Ru.st (Vc)) | ((with_reducible show Ru (Go.Abs.br _ _ _) _);first | (with_reducible first | apply Ru.st (Vn _ _) | apply Ru.st (Wk _ _) | (apply Ru.pos;assumption) | (apply Ru.neg;assumption) | (apply Ru.nt;assumption) | (apply Ru.nf;assumption)) | refine Ru.st (x1) ?_ | refine Ru.st (x2) ?_ | refine Ru.st (x3) ?_ | refine Ru.st (x4) ?_ | refine Ru.st (x5) ?_ | refine Ru.st (x6) ?_ | refine Ru.st (x7) ?_ | refine Ru.st (x8) ?_ | (with_reducible apply Ru.pos;with_unfolding_all rfl) | (with_reducible apply Ru.neg;with_unfolding_all rfl)) | ((with_reducible show Ru (Go.Abs.bnd _ _) _);with_reducible first | apply Ru.st (Xd fq1) | apply Ru.st (Xd fq2) | apply Ru.st (Xd fq3) | apply Ru.st (Xd fq4) | apply Ru.st (Xd fq5) | apply Ru.st (Xd fq6) | apply Ru.st (Xd fq7) | apply Ru.st (Xd fq8) | apply Ru.st (Xd fq9) | apply Ru.st (Xd fq10) | apply Ru.st (Xd fq11) | apply Ru.st (Xd fq12) | apply Ru.st (Xd fq13) | apply Ru.st (Xd fq14)) | ((with_reducible show Ru (Go.Abs.Z6 _ _ _) _);first | (with_reducible first | (apply Ru.row r0;with_unfolding_all rfl) | (apply Ru.row r1;with_unfolding_all rfl) | (apply Ru.row r2;with_unfolding_all rfl) | (apply Ru.row r3;with_unfolding_all rfl) | (apply Ru.row r4;with_unfolding_all rfl) | (apply Ru.row r5;with_unfolding_all rfl) | (apply Ru.row r6;with_unfolding_all rfl) | (apply Ru.row r7;with_unfolding_all rfl) | (apply Ru.row r8;with_unfolding_all rfl) | (apply Ru.row r9;with_unfolding_all rfl) | (apply Ru.rowS hL;with_unfolding_all rfl) | (apply Ru.rowS hM;with_unfolding_all rfl)) | refine Ru.st (x1) ?_ | refine Ru.st (x2) ?_ | refine Ru.st (x3) ?_ | refine Ru.st (x4) ?_ | refine Ru.st (x5) ?_ | refine Ru.st (x6) ?_ | refine Ru.st (x7) ?_ | refine Ru.st (x8) ?_) | ((with_reducible show Ru (Go.Abs.Ve _ _ _ _ _) _);first | (with_reducible first | (apply Ru.setS hL;with_unfolding_all rfl) | (apply Ru.setS hM;with_unfolding_all rfl) | (apply Ru.setA st1;with_unfolding_all rfl) | (apply Ru.setA st2;with_unfolding_all rfl) | (apply Ru.setA st3;with_unfolding_all rfl) | (apply Ru.setA st4;with_unfolding_all rfl)) | refine Ru.st (x1) ?_ | refine Ru.st (x2) ?_ | refine Ru.st (x3) ?_ | refine Ru.st (x4) ?_ | refine Ru.st (x5) ?_ | refine Ru.st (x6) ?_ | refine Ru.st (x7) ?_ | refine Ru.st (x8) ?_) | (with_reducible first | (apply Ru.nav r0;with_unfolding_all rfl) | (apply Ru.nav r1;with_unfolding_all rfl) | (apply Ru.nav r2;with_unfolding_all rfl) | (apply Ru.nav r3;with_unfolding_all rfl) | (apply Ru.nav r4;with_unfolding_all rfl) | (apply Ru.nav r5;with_unfolding_all rfl) | (apply Ru.nav r6;with_unfolding_all rfl) | (apply Ru.nav r7;with_unfolding_all rfl) | (apply Ru.nav r8;with_unfolding_all rfl) | (apply Ru.nav r9;with_unfolding_all rfl) | (apply Ru.mod r0;with_unfolding_all rfl) | (apply Ru.mod r1;with_unfolding_all rfl) | (apply Ru.mod r2;with_unfolding_all rfl) | (apply Ru.mod r3;with_unfolding_all rfl) | (apply Ru.mod r4;with_unfolding_all rfl) | (apply Ru.mod r5;with_unfolding_all rfl) | (apply Ru.mod r6;with_unfolding_all rfl) | (apply Ru.mod r7;with_unfolding_all rfl) | (apply Ru.mod r8;with_unfolding_all rfl) | (apply Ru.mod r9;with_unfolding_all rfl) | apply Ru.st (Qb _ _ _) | apply Ru.st (Qc _ _ _) | apply Ru.st (Xds) | apply Ru.st (Xdt)) | refine Ru.st (x1) ?_ | refine Ru.st (x2) ?_ | refine Ru.st (x3) ?_ | refine Ru.st (x4) ?_ | refine Ru.st (x5) ?_ | refine Ru.st (x6) ?_ | refine Ru.st (x7) ?_ | refine Ru.st (x8) ?_));all_goals (try ((try (conv=>arg 1;whnf));exact Ru.rf _))):P x:=by rw [h.eqW];exact k
end Go.Abs
namespace Go.Proofs.YtbploohjimpcaaaGreat.A
open Go Go.Abs
set_option maxRecDepth 100000
abbrev u8A (x:Int):List AV:=[.int .u8 x]
abbrev curA (bs:List Int) (i:Nat) (h:Int):AV:=.pv [.tup [.lst 1 (bs.map u8A)],.int .i64 (i:Int),.int .i64 h]
abbrev curO (i:Nat) (h:Int):List AV:=[.int .i64 (i:Int),.int .i64 h]
theorem land_bd (a:Int):0≤IntKind.i64.wrap ((BitVec.ofInt IntKind.i64.bits a &&& BitVec.ofInt IntKind.i64.bits 255).toNat:Int)∧IntKind.i64.wrap ((BitVec.ofInt IntKind.i64.bits a &&& BitVec.ofInt IntKind.i64.bits 255).toNat:Int)≤255:=by
 have h:(BitVec.ofInt IntKind.i64.bits a &&& BitVec.ofInt IntKind.i64.bits 255).toNat≤255:=by
  rw [BitVec.toNat_and]
  exact Nat.le_trans Nat.and_le_right (by decide)
 rw [Xc (by omega) (by omega)]
 omega
set_option maxHeartbeats 4000000 in
theorem F_spec_l1Byte {bs:List Int} {i:Nat} {h:Int} (hl:bs.length≤maxLen) (hi:i≤bs.length):∃ (x:Int) (i':Nat) (h':Int),(∀ n,callP cfg (n+1) 240 [curA bs i h]=some ⟨.int .i64 x,curO i' h'⟩)∧i'≤bs.length∧0≤x∧x≤255:=by
 unfold maxLen at hl
 by_cases hlt:i<bs.length
 ·have d1:=Xf (f:=u8A) hlt
  have d2:=Xg i
  have r1:=Xe (f:=u8A) hlt
  have hw:=Xv (k:=i) (by omega)
  apply Exists.intro
  refine ⟨i+1,?_⟩
  apply Exists.intro
  refine ⟨fun n=>?_,hlt,?_⟩
  ·rw [Xa]
   refine goD ?_
   try with_reducible rfl
   rw [hw]
  ·exact land_bd _
 ·have d1:=Xh (f:=u8A) (Nat.le_of_not_lt hlt)
  apply Exists.intro
  refine ⟨i,?_⟩
  apply Exists.intro
  refine ⟨fun n=>?_,hi,?_⟩
  ·rw [Xa]
   refine goD ?_
   try with_reducible rfl
  ·exact land_bd _
set_option maxHeartbeats 4000000 in
theorem F_spec_l1Below {bs:List Int} {i:Nat} {h:Int} {m:Int} (hl:bs.length≤maxLen) (hi:i≤bs.length) (hm:1≤m∧m≤256):∃ (x:Int) (i':Nat) (h':Int),(∀ n,callP cfg (n+2) 158 [curA bs i h,.int .i64 m]=some ⟨.int .i64 x,curO i' h'⟩)∧i'≤bs.length∧0≤x∧x<m:=by
 obtain ⟨x,i',h',hc,hi',h0,h1⟩:=F_spec_l1Byte (h:=h) hl hi
 have b1:decide (m≤0)=false:=decide_eq_false (by omega)
 have b2:decide (m≤256)=true:=decide_eq_true hm.2
 have b3:decide (m=0)=false:=decide_eq_false (by omega)
 refine ⟨x.tmod m,i',h',fun n=>?_,hi',Int.tmod_nonneg _ h0,Int.tmod_lt_of_pos _ (by omega)⟩
 rw [Xa]
 have fq12:=fun {n:Nat}=>hc n
 refine goD ?_
 try with_reducible rfl
set_option maxHeartbeats 4000000 in
theorem F_spec_l1Once {bs:List Int} {i:Nat} {h:Int} {m:Int} (hl:bs.length≤maxLen) (hi:i≤bs.length) (hm:1≤m∧m≤256):∃ (x:Bool) (i':Nat) (h':Int),(∀ n,callP cfg (n+3) 302 [curA bs i h,.int .i64 m]=some ⟨.bool x,curO i' h'⟩)∧i'≤bs.length∧True:=by
 obtain ⟨x,i',h',hc,hi',h0,h1⟩:=F_spec_l1Below (h:=h) hl hi hm
 refine ⟨x==0,i',h',fun n=>?_,hi',trivial⟩
 rw [Xa]
 have fq12:=fun {n:Nat}=>hc n
 refine goD ?_
 try with_reducible rfl
set_option maxHeartbeats 4000000 in
theorem F_spec_l1PickInt {bs:List Int} {i:Nat} {h:Int} {l:List Int} (hl:bs.length≤maxLen) (hi:i≤bs.length) (hm:1≤l.length∧l.length≤256):∃ (x:Int) (i':Nat) (h':Int),(∀ n,callP cfg (n+3) 161 [curA bs i h,Xl l]=some ⟨.int .i64 x,curO i' h'⟩)∧i'≤bs.length∧x∈l:=by
 have hq:1≤((l.map iA).length:Int)∧((l.map iA).length:Int)≤256:=by rw [List.length_map];omega
 obtain ⟨x,i',h',hc,hi',h0,h1⟩:=F_spec_l1Below (h:=h) hl hi hq
 rw [List.length_map] at h1
 have hx:x.toNat<l.length:=by omega
 have d1:decide (x<((l.map iA).length:Int))=true:=by rw [List.length_map];exact decide_eq_true h1
 have d2:decide (0≤x)=true:=decide_eq_true h0
 have r1:=Xe (f:=iA) hx
 refine ⟨l.getD x.toNat default,i',h',fun n=>?_,hi',Xi hx⟩
 rw [Xa]
 have fq12:=fun {n:Nat}=>hc n
 refine goD ?_
 try with_reducible rfl
set_option maxHeartbeats 4000000 in
theorem F_spec_l3Config {bs:List Int} {i:Nat} {h:Int} (hl:bs.length≤maxLen) (hi:i≤bs.length):∃ (x:Cf) (i':Nat) (h':Int),(∀ n,callP cfg (n+4) 237 [curA bs i h]=some ⟨.agg (cfA x),curO i' h'⟩)∧i'≤bs.length∧1≤x.th∧x.th≤3∧1≤x.keys∧x.keys≤2:=by
 obtain ⟨x1,i1,h1,hc1,hi1,p1,q1⟩:=F_spec_l1Below (h:=h) (m:=3) hl hi (by omega)
 obtain ⟨x2,i2,h2,hc2,hi2,p2,q2⟩:=F_spec_l1Below (h:=h1) (m:=2) hl hi1 (by omega)
 obtain ⟨x3,i3,h3,hc3,hi3,q3⟩:=F_spec_l1PickInt (h:=h2) (l:=[3,6,8,12]) hl hi2 (by decide)
 replace hc3:∀ n,callP cfg (n+3) 161 [curA bs i2 h2,.lst ty3.size [[.int .i64 3],[.int .i64 6],[.int .i64 8],[.int .i64 12]]]=some ⟨.int .i64 x3,curO i3 h3⟩:=hc3
 obtain ⟨x4,i4,h4,hc4,hi4,p4,q4⟩:=F_spec_l1Below (h:=h3) (m:=3) hl hi3 (by omega)
 obtain ⟨x5,i5,h5,hc5,hi5,p5,q5⟩:=F_spec_l1Below (h:=h4) (m:=3) hl hi4 (by omega)
 obtain ⟨x6,i6,h6,hc6,hi6,q6⟩:=F_spec_l1PickInt (h:=h5) (l:=[99,99,99,4]) hl hi5 (by decide)
 replace hc6:∀ n,callP cfg (n+3) 161 [curA bs i5 h5,.lst ty3.size [[.int .i64 99],[.int .i64 99],[.int .i64 99],[.int .i64 4]]]=some ⟨.int .i64 x6,curO i6 h6⟩:=hc6
 have fq14:=fun {n:Nat}=>hc1 n
 have fq13:=fun {n:Nat}=>hc2 n
 have fq12:=fun {n:Nat}=>hc3 n
 have fq11:=fun {n:Nat}=>hc4 n
 have fq10:=fun {n:Nat}=>hc5 n
 have fq9:=fun {n:Nat}=>hc6 n
 have w1:IntKind.i64.wrap (1+x1)=1+x1:=Xc (by omega) (by omega)
 have w2:IntKind.i64.wrap (1+x2)=1+x2:=Xc (by omega) (by omega)
 have w4:IntKind.i64.wrap (1+x4)=1+x4:=Xc (by omega) (by omega)
 refine ⟨⟨1+x1,1+x2,x3,1+x4,x5,x6⟩,i6,h6,fun n=>?_,hi6,by show 1≤1+x1∧1+x1≤3∧1≤1+x2∧1+x2≤2;omega⟩
 rw [Xa]
 refine goD ?_
 try with_reducible rfl
 rw [w1,w2,w4]
theorem okO {a b c:Int} {l:List AV}:(some ⟨.agg [.int .i64 a,.int .i64 b,.int .i64 c],l⟩:R)=some ⟨.agg (opA ⟨a,b,c⟩),l⟩:=rfl
set_option maxHeartbeats 4000000 in
theorem F_spec_l5Op {bs:List Int} {i:Nat} {h:Int} {m:Int} (hl:bs.length≤maxLen) (hi:i≤bs.length) (hm:1≤m∧m≤256):∃ (x:Op3) (i':Nat) (h':Int),(∀ n,callP cfg (n+3) 241 [curA bs i h,.int .i64 m]=some ⟨.agg (opA x),curO i' h'⟩)∧i'≤bs.length∧True:=by
 obtain ⟨x,i0,h0,hc,hi0,p0,q0⟩:=F_spec_l1Below (h:=h) (m:=10) hl hi (by omega)
 have hx:x=0∨x=1∨x=2∨x=3∨x=4∨x=5∨x=6∨x=7∨x=8∨x=9:=by omega
 rcases hx with rfl | rfl | rfl | rfl | rfl | rfl | rfl | rfl | rfl | rfl
 ·have z0:((0:Int)==0)=true:=rfl
  have z1:((0:Int)==1)=false:=rfl
  have z2:((0:Int)==2)=false:=rfl
  have z3:((0:Int)==3)=false:=rfl
  have z4:((0:Int)==4)=false:=rfl
  have z5:((0:Int)==5)=false:=rfl
  have z6:((0:Int)==6)=false:=rfl
  have fq8:=fun {n:Nat}=>hc n
  apply Exists.intro
  refine ⟨i0,h0,fun n=>?_,hi0,trivial⟩
  rw [Xa]
  refine goD ?_
  try with_reducible rfl
  all_goals exact okO
 ·have z0:((1:Int)==0)=false:=rfl
  have z1:((1:Int)==1)=true:=rfl
  have z2:((1:Int)==2)=false:=rfl
  have z3:((1:Int)==3)=false:=rfl
  have z4:((1:Int)==4)=false:=rfl
  have z5:((1:Int)==5)=false:=rfl
  have z6:((1:Int)==6)=false:=rfl
  have fq8:=fun {n:Nat}=>hc n
  apply Exists.intro
  refine ⟨i0,h0,fun n=>?_,hi0,trivial⟩
  rw [Xa]
  refine goD ?_
  try with_reducible rfl
  all_goals exact okO
 ·obtain ⟨x1,i1,h1,hc1,hi1,p1,q1⟩:=F_spec_l1Below (h:=h0) (m:=m) hl hi0 (by omega)
  have fq14:=fun {n:Nat}=>hc1 n
  have z0:((2:Int)==0)=false:=rfl
  have z1:((2:Int)==1)=false:=rfl
  have z2:((2:Int)==2)=true:=rfl
  have z3:((2:Int)==3)=false:=rfl
  have z4:((2:Int)==4)=false:=rfl
  have z5:((2:Int)==5)=false:=rfl
  have z6:((2:Int)==6)=false:=rfl
  have fq8:=fun {n:Nat}=>hc n
  apply Exists.intro
  refine ⟨i1,h1,fun n=>?_,hi1,trivial⟩
  rw [Xa]
  refine goD ?_
  try with_reducible rfl
  all_goals exact okO
 ·obtain ⟨x1,i1,h1,hc1,hi1,p1,q1⟩:=F_spec_l1Below (h:=h0) (m:=m) hl hi0 (by omega)
  have fq14:=fun {n:Nat}=>hc1 n
  have z0:((3:Int)==0)=false:=rfl
  have z1:((3:Int)==1)=false:=rfl
  have z2:((3:Int)==2)=false:=rfl
  have z3:((3:Int)==3)=true:=rfl
  have z4:((3:Int)==4)=false:=rfl
  have z5:((3:Int)==5)=false:=rfl
  have z6:((3:Int)==6)=false:=rfl
  have fq8:=fun {n:Nat}=>hc n
  apply Exists.intro
  refine ⟨i1,h1,fun n=>?_,hi1,trivial⟩
  rw [Xa]
  refine goD ?_
  try with_reducible rfl
  all_goals exact okO
 ·obtain ⟨x1,i1,h1,hc1,hi1,p1,q1⟩:=F_spec_l1Below (h:=h0) (m:=m) hl hi0 (by omega)
  have fq14:=fun {n:Nat}=>hc1 n
  have z0:((4:Int)==0)=false:=rfl
  have z1:((4:Int)==1)=false:=rfl
  have z2:((4:Int)==2)=false:=rfl
  have z3:((4:Int)==3)=false:=rfl
  have z4:((4:Int)==4)=true:=rfl
  have z5:((4:Int)==5)=false:=rfl
  have z6:((4:Int)==6)=false:=rfl
  have fq8:=fun {n:Nat}=>hc n
  apply Exists.intro
  refine ⟨i1,h1,fun n=>?_,hi1,trivial⟩
  rw [Xa]
  refine goD ?_
  try with_reducible rfl
  all_goals exact okO
 ·have z0:((5:Int)==0)=false:=rfl
  have z1:((5:Int)==1)=false:=rfl
  have z2:((5:Int)==2)=false:=rfl
  have z3:((5:Int)==3)=false:=rfl
  have z4:((5:Int)==4)=false:=rfl
  have z5:((5:Int)==5)=true:=rfl
  have z6:((5:Int)==6)=false:=rfl
  have fq8:=fun {n:Nat}=>hc n
  apply Exists.intro
  refine ⟨i0,h0,fun n=>?_,hi0,trivial⟩
  rw [Xa]
  refine goD ?_
  try with_reducible rfl
  all_goals exact okO
 ·have z0:((6:Int)==0)=false:=rfl
  have z1:((6:Int)==1)=false:=rfl
  have z2:((6:Int)==2)=false:=rfl
  have z3:((6:Int)==3)=false:=rfl
  have z4:((6:Int)==4)=false:=rfl
  have z5:((6:Int)==5)=false:=rfl
  have z6:((6:Int)==6)=true:=rfl
  have fq8:=fun {n:Nat}=>hc n
  apply Exists.intro
  refine ⟨i0,h0,fun n=>?_,hi0,trivial⟩
  rw [Xa]
  refine goD ?_
  try with_reducible rfl
  all_goals exact okO
 ·obtain ⟨x1,i1,h1,hc1,hi1,p1,q1⟩:=F_spec_l1Below (h:=h0) (m:=m) hl hi0 (by omega)
  obtain ⟨x2,i2,h2,hc2,hi2,p2,q2⟩:=F_spec_l1Below (h:=h1) (m:=100) hl hi1 (by omega)
  have fq14:=fun {n:Nat}=>hc1 n
  have fq13:=fun {n:Nat}=>hc2 n
  have z0:((7:Int)==0)=false:=rfl
  have z1:((7:Int)==1)=false:=rfl
  have z2:((7:Int)==2)=false:=rfl
  have z3:((7:Int)==3)=false:=rfl
  have z4:((7:Int)==4)=false:=rfl
  have z5:((7:Int)==5)=false:=rfl
  have z6:((7:Int)==6)=false:=rfl
  have fq8:=fun {n:Nat}=>hc n
  apply Exists.intro
  refine ⟨i2,h2,fun n=>?_,hi2,trivial⟩
  rw [Xa]
  refine goD ?_
  try with_reducible rfl
  all_goals exact okO
 ·obtain ⟨x1,i1,h1,hc1,hi1,p1,q1⟩:=F_spec_l1Below (h:=h0) (m:=m) hl hi0 (by omega)
  obtain ⟨x2,i2,h2,hc2,hi2,p2,q2⟩:=F_spec_l1Below (h:=h1) (m:=100) hl hi1 (by omega)
  have fq14:=fun {n:Nat}=>hc1 n
  have fq13:=fun {n:Nat}=>hc2 n
  have z0:((8:Int)==0)=false:=rfl
  have z1:((8:Int)==1)=false:=rfl
  have z2:((8:Int)==2)=false:=rfl
  have z3:((8:Int)==3)=false:=rfl
  have z4:((8:Int)==4)=false:=rfl
  have z5:((8:Int)==5)=false:=rfl
  have z6:((8:Int)==6)=false:=rfl
  have fq8:=fun {n:Nat}=>hc n
  apply Exists.intro
  refine ⟨i2,h2,fun n=>?_,hi2,trivial⟩
  rw [Xa]
  refine goD ?_
  try with_reducible rfl
  all_goals exact okO
 ·obtain ⟨x1,i1,h1,hc1,hi1,p1,q1⟩:=F_spec_l1Below (h:=h0) (m:=m) hl hi0 (by omega)
  obtain ⟨x2,i2,h2,hc2,hi2,p2,q2⟩:=F_spec_l1Below (h:=h1) (m:=100) hl hi1 (by omega)
  have fq14:=fun {n:Nat}=>hc1 n
  have fq13:=fun {n:Nat}=>hc2 n
  have z0:((9:Int)==0)=false:=rfl
  have z1:((9:Int)==1)=false:=rfl
  have z2:((9:Int)==2)=false:=rfl
  have z3:((9:Int)==3)=false:=rfl
  have z4:((9:Int)==4)=false:=rfl
  have z5:((9:Int)==5)=false:=rfl
  have z6:((9:Int)==6)=false:=rfl
  have fq8:=fun {n:Nat}=>hc n
  apply Exists.intro
  refine ⟨i2,h2,fun n=>?_,hi2,trivial⟩
  rw [Xa]
  refine goD ?_
  try with_reducible rfl
  all_goals exact okO
set_option maxHeartbeats 4000000 in
theorem F_spec_l5Any {bs:List Int} {i:Nat} {h:Int} (hl:bs.length≤maxLen) (hi:i≤bs.length):∃ (x:Op3) (i':Nat) (h':Int),(∀ n,callP cfg (n+4) 160 [curA bs i h]=some ⟨.agg (opA x),curO i' h'⟩)∧i'≤bs.length∧True:=by
 obtain ⟨o,j0,g0,hd,hj0,_⟩:=F_spec_l5Op (h:=h) (m:=3) hl hi (by omega)
 obtain ⟨x,i0,h0,hc,hi0,p0,q0⟩:=F_spec_l1Below (h:=g0) (m:=12) hl hj0 (by omega)
 have hx:x=0∨x=1∨x=2∨3≤x:=by omega
 rcases hx with rfl | rfl | rfl | hx
 ·obtain ⟨x1,i1,h1,hc1,hi1,q1⟩:=F_spec_l1PickInt (h:=h0) (l:=[0,5,6]) hl hi0 (by decide)
  replace hc1:∀ n,callP cfg (n+3) 161 [curA bs i0 h0,.lst ty3.size [[.int .i64 0],[.int .i64 5],[.int .i64 6]]]=some ⟨.int .i64 x1,curO i1 h1⟩:=hc1
  have fq14:=fun {n:Nat}=>hc1 n
  have z0:((0:Int)==0)=true:=rfl
  have z1:((0:Int)==1)=false:=rfl
  have z2:((0:Int)==2)=false:=rfl
  have fq8:=fun {n:Nat}=>hc n
  have fq7:=fun {n:Nat}=>hd n
  apply Exists.intro
  refine ⟨i1,h1,fun n=>?_,hi1,trivial⟩
  rw [Xa]
  refine goD ?_
  try with_reducible rfl
  all_goals exact okO
 ·obtain ⟨x1,i1,h1,hc1,hi1,q1⟩:=F_spec_l1PickInt (h:=h0) (l:=[-1,0,9,10]) hl hi0 (by decide)
  replace hc1:∀ n,callP cfg (n+3) 161 [curA bs i0 h0,.lst ty3.size [[.int .i64 (-1)],[.int .i64 0],[.int .i64 9],[.int .i64 10]]]=some ⟨.int .i64 x1,curO i1 h1⟩:=hc1
  have fq14:=fun {n:Nat}=>hc1 n
  have z0:((1:Int)==0)=false:=rfl
  have z1:((1:Int)==1)=true:=rfl
  have z2:((1:Int)==2)=false:=rfl
  have fq8:=fun {n:Nat}=>hc n
  have fq7:=fun {n:Nat}=>hd n
  apply Exists.intro
  refine ⟨i1,h1,fun n=>?_,hi1,trivial⟩
  rw [Xa]
  refine goD ?_
  try with_reducible rfl
  all_goals exact okO
 ·obtain ⟨x1,i1,h1,hc1,hi1,q1⟩:=F_spec_l1PickInt (h:=h0) (l:=[-1,0,99,100]) hl hi0 (by decide)
  replace hc1:∀ n,callP cfg (n+3) 161 [curA bs i0 h0,.lst ty3.size [[.int .i64 (-1)],[.int .i64 0],[.int .i64 99],[.int .i64 100]]]=some ⟨.int .i64 x1,curO i1 h1⟩:=hc1
  have fq14:=fun {n:Nat}=>hc1 n
  have z0:((2:Int)==0)=false:=rfl
  have z1:((2:Int)==1)=false:=rfl
  have z2:((2:Int)==2)=true:=rfl
  have fq8:=fun {n:Nat}=>hc n
  have fq7:=fun {n:Nat}=>hd n
  apply Exists.intro
  refine ⟨i1,h1,fun n=>?_,hi1,trivial⟩
  rw [Xa]
  refine goD ?_
  try with_reducible rfl
  all_goals exact okO
 ·have z0:(x==0)=false:=Xt (by omega)
  have z1:(x==1)=false:=Xt (by omega)
  have z2:(x==2)=false:=Xt (by omega)
  have fq8:=fun {n:Nat}=>hc n
  have fq7:=fun {n:Nat}=>hd n
  apply Exists.intro
  refine ⟨i0,h0,fun n=>?_,hi0,trivial⟩
  rw [Xa]
  refine goD ?_
  try with_reducible rfl
  all_goals exact okO
theorem okC {a b c d e f:Int} {l:List AV}:(some ⟨.agg [.int .i64 a,.int .i64 b,.int .i64 c,.int .i64 d,.int .i64 e,.int .i64 f],l⟩:R)=some ⟨.agg (cfA ⟨a,b,c,d,e,f⟩),l⟩:=rfl
set_option maxHeartbeats 4000000 in
theorem F_spec_l3Any {bs:List Int} {i:Nat} {h:Int} (hl:bs.length≤maxLen) (hi:i≤bs.length):∃ (x:Cf) (i':Nat) (h':Int),(∀ n,callP cfg (n+5) 159 [curA bs i h]=some ⟨.agg (cfA x),curO i' h'⟩)∧i'≤bs.length∧True:=by
 obtain ⟨o,j0,g0,hd,hj0,_⟩:=F_spec_l3Config (h:=h) hl hi
 obtain ⟨x,i0,h0,hc,hi0,p0,q0⟩:=F_spec_l1Below (h:=g0) (m:=14) hl hj0 (by omega)
 have hx:x=0∨x=1∨x=2∨x=3∨x=4∨x=5∨6≤x:=by omega
 rcases hx with rfl | rfl | rfl | rfl | rfl | rfl | hx
 ·obtain ⟨x1,i1,h1,hc1,hi1,q1⟩:=F_spec_l1PickInt (h:=h0) (l:=[0,4,5]) hl hi0 (by decide)
  replace hc1:∀ n,callP cfg (n+3) 161 [curA bs i0 h0,.lst ty3.size [[.int .i64 0],[.int .i64 4],[.int .i64 5]]]=some ⟨.int .i64 x1,curO i1 h1⟩:=hc1
  have fq14:=fun {n:Nat}=>hc1 n
  have z0:((0:Int)==0)=true:=rfl
  have z1:((0:Int)==1)=false:=rfl
  have z2:((0:Int)==2)=false:=rfl
  have z3:((0:Int)==3)=false:=rfl
  have z4:((0:Int)==4)=false:=rfl
  have z5:((0:Int)==5)=false:=rfl
  have fq8:=fun {n:Nat}=>hc n
  have fq7:=fun {n:Nat}=>hd n
  apply Exists.intro
  refine ⟨i1,h1,fun n=>?_,hi1,trivial⟩
  rw [Xa]
  refine goD ?_
  try with_reducible rfl
  all_goals exact okC
 ·obtain ⟨x1,i1,h1,hc1,hi1,q1⟩:=F_spec_l1PickInt (h:=h0) (l:=[0,4,5]) hl hi0 (by decide)
  replace hc1:∀ n,callP cfg (n+3) 161 [curA bs i0 h0,.lst ty3.size [[.int .i64 0],[.int .i64 4],[.int .i64 5]]]=some ⟨.int .i64 x1,curO i1 h1⟩:=hc1
  have fq14:=fun {n:Nat}=>hc1 n
  have z0:((1:Int)==0)=false:=rfl
  have z1:((1:Int)==1)=true:=rfl
  have z2:((1:Int)==2)=false:=rfl
  have z3:((1:Int)==3)=false:=rfl
  have z4:((1:Int)==4)=false:=rfl
  have z5:((1:Int)==5)=false:=rfl
  have fq8:=fun {n:Nat}=>hc n
  have fq7:=fun {n:Nat}=>hd n
  apply Exists.intro
  refine ⟨i1,h1,fun n=>?_,hi1,trivial⟩
  rw [Xa]
  refine goD ?_
  try with_reducible rfl
  all_goals exact okC
 ·obtain ⟨x1,i1,h1,hc1,hi1,q1⟩:=F_spec_l1PickInt (h:=h0) (l:=[0,1,24,25]) hl hi0 (by decide)
  replace hc1:∀ n,callP cfg (n+3) 161 [curA bs i0 h0,.lst ty3.size [[.int .i64 0],[.int .i64 1],[.int .i64 24],[.int .i64 25]]]=some ⟨.int .i64 x1,curO i1 h1⟩:=hc1
  have fq14:=fun {n:Nat}=>hc1 n
  have z0:((2:Int)==0)=false:=rfl
  have z1:((2:Int)==1)=false:=rfl
  have z2:((2:Int)==2)=true:=rfl
  have z3:((2:Int)==3)=false:=rfl
  have z4:((2:Int)==4)=false:=rfl
  have z5:((2:Int)==5)=false:=rfl
  have fq8:=fun {n:Nat}=>hc n
  have fq7:=fun {n:Nat}=>hd n
  apply Exists.intro
  refine ⟨i1,h1,fun n=>?_,hi1,trivial⟩
  rw [Xa]
  refine goD ?_
  try with_reducible rfl
  all_goals exact okC
 ·obtain ⟨x1,i1,h1,hc1,hi1,q1⟩:=F_spec_l1PickInt (h:=h0) (l:=[0,4,5]) hl hi0 (by decide)
  replace hc1:∀ n,callP cfg (n+3) 161 [curA bs i0 h0,.lst ty3.size [[.int .i64 0],[.int .i64 4],[.int .i64 5]]]=some ⟨.int .i64 x1,curO i1 h1⟩:=hc1
  have fq14:=fun {n:Nat}=>hc1 n
  have z0:((3:Int)==0)=false:=rfl
  have z1:((3:Int)==1)=false:=rfl
  have z2:((3:Int)==2)=false:=rfl
  have z3:((3:Int)==3)=true:=rfl
  have z4:((3:Int)==4)=false:=rfl
  have z5:((3:Int)==5)=false:=rfl
  have fq8:=fun {n:Nat}=>hc n
  have fq7:=fun {n:Nat}=>hd n
  apply Exists.intro
  refine ⟨i1,h1,fun n=>?_,hi1,trivial⟩
  rw [Xa]
  refine goD ?_
  try with_reducible rfl
  all_goals exact okC
 ·obtain ⟨x1,i1,h1,hc1,hi1,q1⟩:=F_spec_l1PickInt (h:=h0) (l:=[-1,3]) hl hi0 (by decide)
  replace hc1:∀ n,callP cfg (n+3) 161 [curA bs i0 h0,.lst ty3.size [[.int .i64 (-1)],[.int .i64 3]]]=some ⟨.int .i64 x1,curO i1 h1⟩:=hc1
  have fq14:=fun {n:Nat}=>hc1 n
  have z0:((4:Int)==0)=false:=rfl
  have z1:((4:Int)==1)=false:=rfl
  have z2:((4:Int)==2)=false:=rfl
  have z3:((4:Int)==3)=false:=rfl
  have z4:((4:Int)==4)=true:=rfl
  have z5:((4:Int)==5)=false:=rfl
  have fq8:=fun {n:Nat}=>hc n
  have fq7:=fun {n:Nat}=>hd n
  apply Exists.intro
  refine ⟨i1,h1,fun n=>?_,hi1,trivial⟩
  rw [Xa]
  refine goD ?_
  try with_reducible rfl
  all_goals exact okC
 ·obtain ⟨x1,i1,h1,hc1,hi1,q1⟩:=F_spec_l1PickInt (h:=h0) (l:=[0,1,100]) hl hi0 (by decide)
  replace hc1:∀ n,callP cfg (n+3) 161 [curA bs i0 h0,.lst ty3.size [[.int .i64 0],[.int .i64 1],[.int .i64 100]]]=some ⟨.int .i64 x1,curO i1 h1⟩:=hc1
  have fq14:=fun {n:Nat}=>hc1 n
  have z0:((5:Int)==0)=false:=rfl
  have z1:((5:Int)==1)=false:=rfl
  have z2:((5:Int)==2)=false:=rfl
  have z3:((5:Int)==3)=false:=rfl
  have z4:((5:Int)==4)=false:=rfl
  have z5:((5:Int)==5)=true:=rfl
  have fq8:=fun {n:Nat}=>hc n
  have fq7:=fun {n:Nat}=>hd n
  apply Exists.intro
  refine ⟨i1,h1,fun n=>?_,hi1,trivial⟩
  rw [Xa]
  refine goD ?_
  try with_reducible rfl
  all_goals exact okC
 ·have z0:(x==0)=false:=Xt (by omega)
  have z1:(x==1)=false:=Xt (by omega)
  have z2:(x==2)=false:=Xt (by omega)
  have z3:(x==3)=false:=Xt (by omega)
  have z4:(x==4)=false:=Xt (by omega)
  have z5:(x==5)=false:=Xt (by omega)
  have fq8:=fun {n:Nat}=>hc n
  have fq7:=fun {n:Nat}=>hd n
  apply Exists.intro
  refine ⟨i0,h0,fun n=>?_,hi0,trivial⟩
  rw [Xa]
  refine goD ?_
  try with_reducible rfl
  all_goals exact okC
theorem split_key {P:R→Prop} {G:Prop} (F:Nat→Int→R) (main:(∀ i h,P (F i h))→G) (key:∀ i h,P (F i h)):G:=main key
theorem P_bndS {P:R→Prop} {x:R} {k:St→R} (h:∃ st,x=some (encI st)∧P (k st)):P (bndS x k):=by
 obtain ⟨st,h1,h2⟩:=h
 rw [Xxh h1 rfl]
 exact h2
theorem P_bnd {P:R→Prop} {x:R} {k:St→R} (h:∀ Q:R→Prop,(∀ st,P (k st)→Q (some (encI st)))→Q x):P (bndS x k):=P_bndS (h (fun r=>∃ st,r=some (encI st)∧P (k st)) fun st hs=>⟨st,rfl,hs⟩)
abbrev Cu:=Nat×Int
noncomputable def dOp (bs:List Int) (m:Int) (s:Cu):Op3×Cu:=Classical.epsilon fun y=>(∀ n,callP cfg (n+3) 241 [curA bs s.1 s.2,.int .i64 m]=some ⟨.agg (opA y.1),curO y.2.1 y.2.2⟩)∧y.2.1≤bs.length
noncomputable def dBel (bs:List Int) (m:Int) (s:Cu):Int×Cu:=Classical.epsilon fun y=>(∀ n,callP cfg (n+2) 158 [curA bs s.1 s.2,.int .i64 m]=some ⟨.int .i64 y.1,curO y.2.1 y.2.2⟩)∧y.2.1≤bs.length∧0≤y.1∧y.1<m
noncomputable def dOnc (bs:List Int) (m:Int) (s:Cu):Bool×Cu:=Classical.epsilon fun y=>(∀ n,callP cfg (n+3) 302 [curA bs s.1 s.2,.int .i64 m]=some ⟨.bool y.1,curO y.2.1 y.2.2⟩)∧y.2.1≤bs.length
theorem dOp_ok {bs:List Int} {m:Int} {s:Cu} (hl:bs.length≤maxLen) (hi:s.1≤bs.length) (hm:1≤m∧m≤256):(∀ n,callP cfg (n+3) 241 [curA bs s.1 s.2,.int .i64 m]=some ⟨.agg (opA (dOp bs m s).1),curO (dOp bs m s).2.1 (dOp bs m s).2.2⟩)∧(dOp bs m s).2.1≤bs.length:=by
 obtain ⟨x,i',h',hc,hi',_⟩:=F_spec_l5Op (h:=s.2) hl hi hm
 exact Classical.epsilon_spec (p:=fun y:Op3×Cu=>(∀ n,callP cfg (n+3) 241 [curA bs s.1 s.2,.int .i64 m]=some ⟨.agg (opA y.1),curO y.2.1 y.2.2⟩)∧y.2.1≤bs.length) ⟨(x,i',h'),hc,hi'⟩
theorem dBel_ok {bs:List Int} {m:Int} {s:Cu} (hl:bs.length≤maxLen) (hi:s.1≤bs.length) (hm:1≤m∧m≤256):(∀ n,callP cfg (n+2) 158 [curA bs s.1 s.2,.int .i64 m]=some ⟨.int .i64 (dBel bs m s).1,curO (dBel bs m s).2.1 (dBel bs m s).2.2⟩)∧(dBel bs m s).2.1≤bs.length∧0≤(dBel bs m s).1∧(dBel bs m s).1<m:=by
 obtain ⟨x,i',h',hc,hi',h0,h1⟩:=F_spec_l1Below (h:=s.2) hl hi hm
 exact Classical.epsilon_spec (p:=fun y:Int×Cu=>(∀ n,callP cfg (n+2) 158 [curA bs s.1 s.2,.int .i64 m]=some ⟨.int .i64 y.1,curO y.2.1 y.2.2⟩)∧y.2.1≤bs.length∧0≤y.1∧y.1<m) ⟨(x,i',h'),hc,hi',h0,h1⟩
theorem dOnc_ok {bs:List Int} {m:Int} {s:Cu} (hl:bs.length≤maxLen) (hi:s.1≤bs.length) (hm:1≤m∧m≤256):(∀ n,callP cfg (n+3) 302 [curA bs s.1 s.2,.int .i64 m]=some ⟨.bool (dOnc bs m s).1,curO (dOnc bs m s).2.1 (dOnc bs m s).2.2⟩)∧(dOnc bs m s).2.1≤bs.length:=by
 obtain ⟨x,i',h',hc,hi',_⟩:=F_spec_l1Once (h:=s.2) hl hi hm
 exact Classical.epsilon_spec (p:=fun y:Bool×Cu=>(∀ n,callP cfg (n+3) 302 [curA bs s.1 s.2,.int .i64 m]=some ⟨.bool y.1,curO y.2.1 y.2.2⟩)∧y.2.1≤bs.length) ⟨(x,i',h'),hc,hi'⟩
def vD (x:Int):Nat→Int
 | 0=>x
 | j+1=>IntKind.i64.wrap (vD x j - 1)
theorem vD_eq {x:Int} (h0:0≤x) (h1:x≤1000):∀ {j:Nat},(j:Int)≤x→vD x j=x - (j:Int)
 | 0,_=>by simp [vD]
 | j+1,h=>by rw [vD,vD_eq h0 h1 (by omega),Xc (by omega) (by omega)];omega
noncomputable def pD (bs:List Int) (m:Int) (s:Cu):Nat→List Op3×Cu
 | 0=>([],s)
 | k+1=>((pD bs m s k).1++[(dOp bs m (pD bs m s k).2).1],(dOp bs m (pD bs m s k).2).2)
noncomputable def qS (bs:List Int) (m:Int) (s:Cu):List Op3×Cu:=pD bs m (dBel bs 4 s).2 (dBel bs 4 s).1.toNat
noncomputable def qD (bs:List Int) (m:Int) (s:Cu):Nat→List (List Op3)×Cu
 | 0=>([],s)
 | k+1=>((qD bs m s k).1++[if (dOnc bs 2 (qS bs m (qD bs m s k).2).2).1=true then ⟨1,0,0⟩::(qS bs m (qD bs m s k).2).1 else (qS bs m (qD bs m s k).2).1],(dOnc bs 2 (qS bs m (qD bs m s k).2).2).2)
theorem pD_ok {bs:List Int} {m:Int} {s:Cu} (hl:bs.length≤maxLen) (hi:s.1≤bs.length) (hm:1≤m∧m≤256):∀ k,(pD bs m s k).2.1≤bs.length∧(pD bs m s k).1.length=k
 | 0=>⟨hi,rfl⟩
 | k+1=>⟨(dOp_ok hl (pD_ok hl hi hm k).1 hm).2,by
   show ((pD bs m s k).1++_).length=_
   rw [List.length_append,(pD_ok hl hi hm k).2]
   rfl⟩
theorem qS_ok {bs:List Int} {m:Int} {s:Cu} (hl:bs.length≤maxLen) (hi:s.1≤bs.length) (hm:1≤m∧m≤256):(qS bs m s).2.1≤bs.length∧(qS bs m s).1.length≤3:=by
 obtain ⟨_,h1,h2,h3⟩:=dBel_ok (m:=4) hl hi (by omega)
 have:=pD_ok (m:=m) hl h1 hm (dBel bs 4 s).1.toNat
 unfold qS
 exact ⟨this.1,by rw [this.2];omega⟩
theorem qD_ok {bs:List Int} {m:Int} {s:Cu} (hl:bs.length≤maxLen) (hi:s.1≤bs.length) (hm:1≤m∧m≤256):∀ k,(qD bs m s k).2.1≤bs.length∧(qD bs m s k).1.length=k∧∀ l∈(qD bs m s k).1,l.length≤4
 | 0=>⟨hi,rfl,fun l h=>nomatch h⟩
 | k+1=>by
   have ih:=qD_ok hl hi hm k
   have h1:=qS_ok hl ih.1 hm
   have h2:=dOnc_ok (m:=2) hl h1.1 (by omega)
   refine ⟨h2.2,by show ((qD bs m s k).1++_).length=_;rw [List.length_append,ih.2.1];rfl,fun l hl2=>?_⟩
   rcases List.mem_append.1 hl2 with h | h
   ·exact ih.2.2 l h
   ·rw [List.mem_singleton.1 h]
    split
    ·show (qS bs m (qD bs m s k).2).1.length+1≤4
     omega
    ·omega
set_option maxHeartbeats 16000000 in
theorem F_spec_DrawRunScript {P:R→Prop} {n:Nat} {bs:List Int} (hl:bs.length≤maxLen) (hP:∀ (c:Cf) (ps:List (List Op3)) (pk:List Int),ps.length≤5→(∀ l∈ps,l.length≤5)→pk.length≤100→P (some ⟨.agg [.int .i64 c.th,.int .i64 c.keys,.int .i64 c.cap,.int .i64 c.b,.int .i64 c.p,.int .i64 c.cm,.lst 1 (ps.map fun l=>[.lst 3 (l.map opA)]),Xl pk],[]⟩)):P (callP cfg (n+8) 46 [.lst 1 (bs.map u8A)]):=by
 rw [Xa]
 have hl':bs.length≤9223372036854775807:=hl
 refine goX ?_
 apply split_key (P:=P)
 ·intro key
  refine evLoop_P (fun e (x:Nat×Int)=>(e.set 3 (.int .i64 x.2)).set 4 (.int .i64 (x.1:Int))) (fun h _=>h) (fun x=>x.1≤bs.length∧x.1≤4000) (fun x=>4000 - x.1) (0,IntKind.i64.wrap (10101+((bs.map u8A).length:Int))) rfl ⟨Nat.zero_le _,Nat.zero_le _⟩ (by show 4000 - 0<18446744073709551616;omega) ?_
  rintro ⟨i,h⟩ f ⟨hi,hj⟩ IH
  simp only at hi hj ⊢
  by_cases hlt:i<bs.length
  ·have d1:=Xf (f:=u8A) hlt
   have d2:=Xg i
   have r1:=Xe (f:=u8A) hlt
   have hw:=Xv (k:=i) (by omega)
   by_cases h4:i<4000
   ·have d3:decide ((i:Int)<4000)=true:=decide_eq_true (by omega)
    refine goX ?_
    exact IH (i+1,_) _ _ ⟨hlt,h4⟩ (by show 4000 - (i+1)<4000 - i;omega) (by rw [hw];rfl) rfl
   ·have d3:decide ((i:Int)<4000)=false:=decide_eq_false (by omega)
    clear IH
    refine goX ?_
    exact key i h
  ·have d1:=Xh (f:=u8A) (Nat.le_of_not_lt hlt)
   clear IH
   refine goX ?_
   exact key i h
 ·intro i0 h0
  obtain ⟨c,i1,h1,hc,hi1,cb⟩:=F_spec_l3Config (h:=h0) hl (Nat.zero_le _)
  replace hc:∀ n,callP cfg (n+4) 237 [.pv [.tup [.lst 1 (bs.map u8A)],.int .i64 0,.int .i64 h0]]=some ⟨.agg (cfA c),curO i1 h1⟩:=hc
  have fq12:=fun {n:Nat}=>hc n
  refine goX ?_
  clear hc
  refine goXE ?_
  refine P_bnd fun Q hQ=>?_
  refine goX ?_
  obtain ⟨YF,hYF⟩:∃ Y,Y=qD bs c.keys (i1,h1) c.th.toNat:=⟨_,rfl⟩
  refine evLoop_P (fun e (k:Nat)=>e.set 8 (.int .i64 (k:Int))) (fun h (k:Nat)=>(h.set 2 (some ⟨false,false,true,ty156.size,[[.ref 0 [(0,0)],.int .i64 ((qD bs c.keys (i1,h1) k).2.1:Int),.int .i64 (qD bs c.keys (i1,h1) k).2.2]]⟩)).set 15 (some ⟨false,false,false,ty108.size,(qD bs c.keys (i1,h1) k).1.map fun l=>[AV.lst 3 (l.map opA)]⟩)) (fun (k:Nat)=>k≤c.th.toNat) (fun (k:Nat)=>c.th.toNat - k) 0 rfl (Nat.zero_le _) (by show _ - 0<18446744073709551616;omega) ?_
  intro k f hk IH
  have hq:=qD_ok (m:=c.keys) (s:=(i1,h1)) hl hi1 (by omega) k
  by_cases hlt:k<c.th.toNat
  ·have d1:decide ((k:Int)<c.th)=true:=decide_eq_true (by omega)
   have hw:=Xv (k:=k) (by omega)
   have hb:=dBel_ok (m:=4) hl hq.1 (by omega)
   have fq11:∀ {n:Nat},callP cfg (n+2) 158 [curA bs (qD bs c.keys (i1,h1) k).2.1 (qD bs c.keys (i1,h1) k).2.2,.int .i64 (IntKind.i64.wrap (3+1))]=some ⟨.int .i64 (dBel bs 4 (qD bs c.keys (i1,h1) k).2).1,curO (dBel bs 4 (qD bs c.keys (i1,h1) k).2).2.1 (dBel bs 4 (qD bs c.keys (i1,h1) k).2).2.2⟩:=fun {n}=>hb.1 n
   refine goX ?_
   try dsimp only
   obtain ⟨hb0,hb1,hb2,hb3⟩:=hb
   refine evLoop_P (fun e (j:Nat)=>e.set 8 (.int .i64 (vD (dBel bs 4 (qD bs c.keys (i1,h1) k).2).1 j))) (fun h (j:Nat)=>(h.set 2 (some ⟨false,false,true,ty156.size,[[.ref 0 [(0,0)],.int .i64 ((pD bs c.keys (dBel bs 4 (qD bs c.keys (i1,h1) k).2).2 j).2.1:Int),.int .i64 (pD bs c.keys (dBel bs 4 (qD bs c.keys (i1,h1) k).2).2 j).2.2]]⟩)).set 17 (some ⟨false,false,false,ty74.size,(pD bs c.keys (dBel bs 4 (qD bs c.keys (i1,h1) k).2).2 j).1.map opA⟩)) (fun (j:Nat)=>j≤(dBel bs 4 (qD bs c.keys (i1,h1) k).2).1.toNat) (fun (j:Nat)=>(dBel bs 4 (qD bs c.keys (i1,h1) k).2).1.toNat - j) 0 rfl (Nat.zero_le _) (by show _ - 0<18446744073709551616;omega) ?_
   intro j f2 hj IH2
   have hp:=pD_ok (m:=c.keys) (s:=(dBel bs 4 (qD bs c.keys (i1,h1) k).2).2) hl hb1 (by omega) j
   have hv:=vD_eq (x:=(dBel bs 4 (qD bs c.keys (i1,h1) k).2).1) (j:=j) hb2 (by omega) (by omega)
   by_cases hlj:j<(dBel bs 4 (qD bs c.keys (i1,h1) k).2).1.toNat
   ·have d2:decide (vD (dBel bs 4 (qD bs c.keys (i1,h1) k).2).1 j>0)=true:=decide_eq_true (by omega)
    have ho:=dOp_ok (m:=c.keys) hl hp.1 (by omega)
    have fq10:=fun {n:Nat}=>ho.1 n
    have l1:Y0 ((pD bs c.keys (dBel bs 4 (qD bs c.keys (i1,h1) k).2).2 j).1.map opA)=true:=Yx fun x=>rfl
    have e3:decide ((((pD bs c.keys (dBel bs 4 (qD bs c.keys (i1,h1) k).2).2 j).1.map opA).length+1)*24≤Yf)=true:=decide_eq_true (by rw [List.length_map,hp.2];show _≤140737488355328;omega)
    have x1:=fun {x y:R}=>Xn (x:=x) (y:=y) e3
    refine goX ?_
    clear x1
    exact IH2 (j+1) _ _ hlj (by show _ - (j+1)<_ - j;omega) rfl (by rw [show (pD bs c.keys (dBel bs 4 (qD bs c.keys (i1,h1) k).2).2 (j+1)).1.map opA=(pD bs c.keys (dBel bs 4 (qD bs c.keys (i1,h1) k).2).2 j).1.map opA++[opA (dOp bs c.keys (pD bs c.keys (dBel bs 4 (qD bs c.keys (i1,h1) k).2).2 j).2).1] from by rw [pD,List.map_append];rfl];rfl)
   ·have hjN:j=(dBel bs 4 (qD bs c.keys (i1,h1) k).2).1.toNat:=by omega
    have d2:decide (vD (dBel bs 4 (qD bs c.keys (i1,h1) k).2).1 j>0)=false:=decide_eq_false (by omega)
    clear IH2
    subst hjN
    refine goX ?_
    have hS:=qS_ok (m:=c.keys) (s:=(qD bs c.keys (i1,h1) k).2) hl hq.1 (by omega)
    have hO:=dOnc_ok (m:=2) hl hS.1 (by omega)
    try dsimp only
    rw [show pD bs c.keys (dBel bs 4 (qD bs c.keys (i1,h1) k).2).2 (dBel bs 4 (qD bs c.keys (i1,h1) k).2).1.toNat=qS bs c.keys (qD bs c.keys (i1,h1) k).2 from rfl]
    rw [show pD bs c.keys (dBel bs 4 (qD bs c.keys (i1,h1) k).2).2 (dBel bs 4 (qD bs c.keys (i1,h1) k).2).1.toNat=qS bs c.keys (qD bs c.keys (i1,h1) k).2 from rfl] at hp
    have hC:(qD bs c.keys (i1,h1) (k+1)).2=(dOnc bs 2 (qS bs c.keys (qD bs c.keys (i1,h1) k).2).2).2:=rfl
    have hE1:(dOnc bs 2 (qS bs c.keys (qD bs c.keys (i1,h1) k).2).2).1=true→(qD bs c.keys (i1,h1) (k+1)).1.map (fun l=>[AV.lst 3 (l.map opA)])=(qD bs c.keys (i1,h1) k).1.map (fun l=>[AV.lst 3 (l.map opA)])++[[AV.lst 3 ([.int .i64 1,.int .i64 0,.int .i64 0]::(qS bs c.keys (qD bs c.keys (i1,h1) k).2).1.map opA)]]:=fun hB=>by
     rw [qD,if_pos hB,List.map_append];rfl
    have hE0:¬(dOnc bs 2 (qS bs c.keys (qD bs c.keys (i1,h1) k).2).2).1=true→(qD bs c.keys (i1,h1) (k+1)).1.map (fun l=>[AV.lst 3 (l.map opA)])=(qD bs c.keys (i1,h1) k).1.map (fun l=>[AV.lst 3 (l.map opA)])++[[AV.lst 3 ((qS bs c.keys (qD bs c.keys (i1,h1) k).2).1.map opA)]]:=fun hB=>by
     rw [qD,if_neg hB,List.map_append];rfl
    clear hp hv d2 hlj hb0 hb1 hb2 hb3 fq11 hj
    generalize dOnc bs 2 (qS bs c.keys (qD bs c.keys (i1,h1) k).2).2=O at *
    generalize qS bs c.keys (qD bs c.keys (i1,h1) k).2=S at *
    generalize (qD bs c.keys (i1,h1) k)=Y at *
    obtain ⟨hO,hO2⟩:=hO
    have fq10:=fun {n:Nat}=>hO n
    have l2:Y0 (S.1.map opA)=true:=Yx fun x=>rfl
    have e6:decide (((Y.1.map fun l=>[AV.lst 3 (l.map opA)]).length+1)*24≤Yf)=true:=decide_eq_true (by rw [List.length_map,hq.2.1];show _≤140737488355328;omega)
    by_cases hB:O.1=true
    ·have e5:decide ((([[.int .i64 1,.int .i64 0,.int .i64 0]]:List (List AV)).length+(S.1.map opA).length)*24≤Yf)=true:=decide_eq_true (by have:=hS.2;simp only [List.length_cons,List.length_nil,List.length_map];unfold Yf;omega)
     have hE:=hE1 hB
     have x1:=fun {x y:R}=>Xn (x:=x) (y:=y) e5
     have x2:=fun {x y:R}=>Xn (x:=x) (y:=y) e6
     refine goX ?_
     clear x1 x2
     exact IH (k+1) _ _ hlt (by show _ - (k+1)<_ - k;omega) (by rw [hw];rfl) (by rw [hC,hE];rfl)
    ·have hB':O.1=false:=by simpa using hB
     have hE:=hE0 hB
     have x1:=fun {x y:R}=>Xn (x:=x) (y:=y) e6
     refine goX ?_
     clear x1
     exact IH (k+1) _ _ hlt (by show _ - (k+1)<_ - k;omega) (by rw [hw];rfl) (by rw [hC,hE];rfl)
  ·have d1:decide ((k:Int)<c.th)=false:=decide_eq_false (by omega)
   have hkN:k=c.th.toNat:=by omega
   clear IH
   subst hkN
   rw [←hYF] at hq ⊢
   refine goX ?_
   refine goXE ?_
   refine hQ _ ?_
   refine goXE ?_
   refine P_bnd fun Q2 hQ2=>?_
   refine goXE ?_
   refine hQ2 _ ?_
   refine goXE ?_
   refine P_bnd fun Q3 hQ3=>?_
   refine goXE ?_
   refine hQ3 _ ?_
   refine goXE ?_
   refine P_bnd fun Q4 hQ4=>?_
   refine goXE ?_
   refine hQ4 _ ?_
   refine goXE ?_
   refine P_bnd fun Q5 hQ5=>?_
   refine goX ?_
   refine evLoop_P (fun e (k:Nat)=>e.set 8 (.int .i64 (k:Int))) (fun h (k:Nat)=>(h.set 2 (some ⟨false,false,true,ty156.size,[[.ref 0 [(0,0)],.int .i64 ((qD bs c.keys (i1,h1) k).2.1:Int),.int .i64 (qD bs c.keys (i1,h1) k).2.2]]⟩)).set 15 (some ⟨false,false,false,ty108.size,(qD bs c.keys (i1,h1) k).1.map fun l=>[AV.lst 3 (l.map opA)]⟩)) (fun (k:Nat)=>k≤c.th.toNat) (fun (k:Nat)=>c.th.toNat - k) 0 rfl (Nat.zero_le _) (by show _ - 0<18446744073709551616;omega) ?_
   intro k f hk IH
   have hq:=qD_ok (m:=c.keys) (s:=(i1,h1)) hl hi1 (by omega) k
   by_cases hlt:k<c.th.toNat
   ·have d1:decide ((k:Int)<c.th)=true:=decide_eq_true (by omega)
    have hw:=Xv (k:=k) (by omega)
    have hb:=dBel_ok (m:=4) hl hq.1 (by omega)
    have fq11:∀ {n:Nat},callP cfg (n+2) 158 [curA bs (qD bs c.keys (i1,h1) k).2.1 (qD bs c.keys (i1,h1) k).2.2,.int .i64 (IntKind.i64.wrap (3+1))]=some ⟨.int .i64 (dBel bs 4 (qD bs c.keys (i1,h1) k).2).1,curO (dBel bs 4 (qD bs c.keys (i1,h1) k).2).2.1 (dBel bs 4 (qD bs c.keys (i1,h1) k).2).2.2⟩:=fun {n}=>hb.1 n
    refine goX ?_
    try dsimp only
    obtain ⟨hb0,hb1,hb2,hb3⟩:=hb
    refine evLoop_P (fun e (j:Nat)=>e.set 8 (.int .i64 (vD (dBel bs 4 (qD bs c.keys (i1,h1) k).2).1 j))) (fun h (j:Nat)=>(h.set 2 (some ⟨false,false,true,ty156.size,[[.ref 0 [(0,0)],.int .i64 ((pD bs c.keys (dBel bs 4 (qD bs c.keys (i1,h1) k).2).2 j).2.1:Int),.int .i64 (pD bs c.keys (dBel bs 4 (qD bs c.keys (i1,h1) k).2).2 j).2.2]]⟩)).set 17 (some ⟨false,false,false,ty74.size,(pD bs c.keys (dBel bs 4 (qD bs c.keys (i1,h1) k).2).2 j).1.map opA⟩)) (fun (j:Nat)=>j≤(dBel bs 4 (qD bs c.keys (i1,h1) k).2).1.toNat) (fun (j:Nat)=>(dBel bs 4 (qD bs c.keys (i1,h1) k).2).1.toNat - j) 0 rfl (Nat.zero_le _) (by show _ - 0<18446744073709551616;omega) ?_
    intro j f2 hj IH2
    have hp:=pD_ok (m:=c.keys) (s:=(dBel bs 4 (qD bs c.keys (i1,h1) k).2).2) hl hb1 (by omega) j
    have hv:=vD_eq (x:=(dBel bs 4 (qD bs c.keys (i1,h1) k).2).1) (j:=j) hb2 (by omega) (by omega)
    by_cases hlj:j<(dBel bs 4 (qD bs c.keys (i1,h1) k).2).1.toNat
    ·have d2:decide (vD (dBel bs 4 (qD bs c.keys (i1,h1) k).2).1 j>0)=true:=decide_eq_true (by omega)
     have ho:=dOp_ok (m:=c.keys) hl hp.1 (by omega)
     have fq10:=fun {n:Nat}=>ho.1 n
     have l1:Y0 ((pD bs c.keys (dBel bs 4 (qD bs c.keys (i1,h1) k).2).2 j).1.map opA)=true:=Yx fun x=>rfl
     have e3:decide ((((pD bs c.keys (dBel bs 4 (qD bs c.keys (i1,h1) k).2).2 j).1.map opA).length+1)*24≤Yf)=true:=decide_eq_true (by rw [List.length_map,hp.2];show _≤140737488355328;omega)
     have x1:=fun {x y:R}=>Xn (x:=x) (y:=y) e3
     refine goX ?_
     clear x1
     exact IH2 (j+1) _ _ hlj (by show _ - (j+1)<_ - j;omega) rfl (by rw [show (pD bs c.keys (dBel bs 4 (qD bs c.keys (i1,h1) k).2).2 (j+1)).1.map opA=(pD bs c.keys (dBel bs 4 (qD bs c.keys (i1,h1) k).2).2 j).1.map opA++[opA (dOp bs c.keys (pD bs c.keys (dBel bs 4 (qD bs c.keys (i1,h1) k).2).2 j).2).1] from by rw [pD,List.map_append];rfl];rfl)
    ·have hjN:j=(dBel bs 4 (qD bs c.keys (i1,h1) k).2).1.toNat:=by omega
     have d2:decide (vD (dBel bs 4 (qD bs c.keys (i1,h1) k).2).1 j>0)=false:=decide_eq_false (by omega)
     clear IH2
     subst hjN
     refine goX ?_
     have hS:=qS_ok (m:=c.keys) (s:=(qD bs c.keys (i1,h1) k).2) hl hq.1 (by omega)
     have hO:=dOnc_ok (m:=2) hl hS.1 (by omega)
     try dsimp only
     rw [show pD bs c.keys (dBel bs 4 (qD bs c.keys (i1,h1) k).2).2 (dBel bs 4 (qD bs c.keys (i1,h1) k).2).1.toNat=qS bs c.keys (qD bs c.keys (i1,h1) k).2 from rfl]
     rw [show pD bs c.keys (dBel bs 4 (qD bs c.keys (i1,h1) k).2).2 (dBel bs 4 (qD bs c.keys (i1,h1) k).2).1.toNat=qS bs c.keys (qD bs c.keys (i1,h1) k).2 from rfl] at hp
     have hC:(qD bs c.keys (i1,h1) (k+1)).2=(dOnc bs 2 (qS bs c.keys (qD bs c.keys (i1,h1) k).2).2).2:=rfl
     have hE1:(dOnc bs 2 (qS bs c.keys (qD bs c.keys (i1,h1) k).2).2).1=true→(qD bs c.keys (i1,h1) (k+1)).1.map (fun l=>[AV.lst 3 (l.map opA)])=(qD bs c.keys (i1,h1) k).1.map (fun l=>[AV.lst 3 (l.map opA)])++[[AV.lst 3 ([.int .i64 1,.int .i64 0,.int .i64 0]::(qS bs c.keys (qD bs c.keys (i1,h1) k).2).1.map opA)]]:=fun hB=>by
      rw [qD,if_pos hB,List.map_append];rfl
     have hE0:¬(dOnc bs 2 (qS bs c.keys (qD bs c.keys (i1,h1) k).2).2).1=true→(qD bs c.keys (i1,h1) (k+1)).1.map (fun l=>[AV.lst 3 (l.map opA)])=(qD bs c.keys (i1,h1) k).1.map (fun l=>[AV.lst 3 (l.map opA)])++[[AV.lst 3 ((qS bs c.keys (qD bs c.keys (i1,h1) k).2).1.map opA)]]:=fun hB=>by
      rw [qD,if_neg hB,List.map_append];rfl
     clear hp hv d2 hlj hb0 hb1 hb2 hb3 fq11 hj
     generalize dOnc bs 2 (qS bs c.keys (qD bs c.keys (i1,h1) k).2).2=O at *
     generalize qS bs c.keys (qD bs c.keys (i1,h1) k).2=S at *
     generalize (qD bs c.keys (i1,h1) k)=Y at *
     obtain ⟨hO,hO2⟩:=hO
     have fq10:=fun {n:Nat}=>hO n
     have l2:Y0 (S.1.map opA)=true:=Yx fun x=>rfl
     have e6:decide (((Y.1.map fun l=>[AV.lst 3 (l.map opA)]).length+1)*24≤Yf)=true:=decide_eq_true (by rw [List.length_map,hq.2.1];show _≤140737488355328;omega)
     by_cases hB:O.1=true
     ·have e5:decide ((([[.int .i64 1,.int .i64 0,.int .i64 0]]:List (List AV)).length+(S.1.map opA).length)*24≤Yf)=true:=decide_eq_true (by have:=hS.2;simp only [List.length_cons,List.length_nil,List.length_map];unfold Yf;omega)
      have hE:=hE1 hB
      have x1:=fun {x y:R}=>Xn (x:=x) (y:=y) e5
      have x2:=fun {x y:R}=>Xn (x:=x) (y:=y) e6
      refine goX ?_
      clear x1 x2
      exact IH (k+1) _ _ hlt (by show _ - (k+1)<_ - k;omega) (by rw [hw];rfl) (by rw [hC,hE];rfl)
     ·have hB':O.1=false:=by simpa using hB
      have hE:=hE0 hB
      have x1:=fun {x y:R}=>Xn (x:=x) (y:=y) e6
      refine goX ?_
      clear x1
      exact IH (k+1) _ _ hlt (by show _ - (k+1)<_ - k;omega) (by rw [hw];rfl) (by rw [hC,hE];rfl)
   ·have d1:decide ((k:Int)<c.th)=false:=decide_eq_false (by omega)
    have hkN:k=c.th.toNat:=by omega
    clear IH
    subst hkN
    rw [←hYF] at hq ⊢
    refine goX ?_
    refine goXE ?_
    refine hQ5 _ ?_
    refine goXE ?_
    refine P_bnd fun Q6 hQ6=>?_
    refine goXE ?_
    refine hQ6 _ ?_
    refine goXE ?_
    refine P_bnd fun Q7 hQ7=>?_
    refine goXE ?_
    refine hQ7 _ ?_
    refine goXE ?_
    refine P_bnd fun Q8 hQ8=>?_
    refine goXE ?_
    refine hQ8 _ ?_
    refine goXE ?_
    clear hk hlt d1 hQ hQ2 hQ3 hQ4 hQ5 hQ6 hQ7 hQ8 fq12
    obtain ⟨x9,i2,h2,hc9,hi2,p9,q9⟩:=F_spec_l1Below (h:=YF.2.2) (m:=9) hl hq.1 (by omega)
    have fq12:=fun {n:Nat}=>hc9 n
    refine goX ?_
    try dsimp only
    refine evLoop_P (fun e (x:Int×List Int×Cu)=>e.set 6 (.int .i64 x.1)) (fun h x=>(h.set 2 (some ⟨false,false,true,ty156.size,[[.ref 0 [(0,0)],.int .i64 (x.2.2.1:Int),.int .i64 x.2.2.2]]⟩)).set 17 (some ⟨false,false,false,ty3.size,x.2.1.map iA⟩)) (fun x=>0≤x.1∧x.1≤8∧x.2.1.length+9*x.1.toNat≤72∧x.2.2.1≤bs.length) (fun x=>x.1.toNat) (x9,[],(i2,h2)) rfl ⟨p9,by show x9≤8;omega,by show 0+9*x9.toNat≤72;omega,hi2⟩ (by show x9.toNat<18446744073709551616;omega) ?_
    rintro ⟨v,out,s⟩ f ⟨hv0,hv8,ho,hs⟩ IH
    simp only at hv0 hv8 ho hs ⊢
    by_cases hlt:0<v
    ·have d1:decide (v>0)=true:=decide_eq_true hlt
     obtain ⟨x1,ia,ha,hca,hia,pa,qa'⟩:=F_spec_l1Below (h:=s.2) (m:=5) hl hs (by omega)
     obtain ⟨x2,ib,hb,hcb,hib,pb,qb'⟩:=F_spec_l1Below (h:=ha) (m:=9) hl hia (by omega)
     have fq11:=fun {n:Nat}=>hca n
     have fq12:=fun {n:Nat}=>hcb n
     have w2:IntKind.i64.wrap (1+x2)=1+x2:=Xc (by omega) (by omega)
     refine goX ?_
     try dsimp only
     refine evLoop_P (fun e (y:Int×List Int)=>e.set 8 (.int .i64 y.1)) (fun h y=>h.set 17 (some ⟨false,false,false,ty3.size,y.2.map iA⟩)) (fun y=>0≤y.1∧y.1≤9∧y.2.length+y.1.toNat+9*(v.toNat - 1)≤72) (fun y=>y.1.toNat) (IntKind.i64.wrap (1+x2),out) rfl ⟨by show 0≤IntKind.i64.wrap (1+x2);rw [w2];omega,by show IntKind.i64.wrap (1+x2)≤9;rw [w2];omega,by show out.length+(IntKind.i64.wrap (1+x2)).toNat+_≤72;rw [w2];omega⟩ (by show (IntKind.i64.wrap (1+x2)).toNat<18446744073709551616;rw [w2];omega) ?_
     rintro ⟨kk,l⟩ f2 ⟨hk0,hk9,hkl⟩ IH2
     simp only at hk0 hk9 hkl ⊢
     by_cases hlk:0<kk
     ·have d2:decide (kk>0)=true:=decide_eq_true hlk
      have w3:IntKind.i64.wrap (kk - 1)=kk - 1:=Xc (by omega) (by omega)
      have e3:decide (((l.map iA).length+1)*8≤Yf)=true:=decide_eq_true (by rw [List.length_map];unfold Yf;omega)
      have x1:=fun {x y:R}=>Xn (x:=x) (y:=y) e3
      refine goX ?_
      clear x1
      exact IH2 (IntKind.i64.wrap (kk - 1),l++[IntKind.i64.wrap (x1 - 1)]) _ _ ⟨by show 0≤IntKind.i64.wrap (kk - 1);rw [w3];omega,by show IntKind.i64.wrap (kk - 1)≤9;rw [w3];omega,by show (l++_).length+(IntKind.i64.wrap (kk - 1)).toNat+_≤72;rw [w3,List.length_append,List.length_singleton];omega⟩ (by show (IntKind.i64.wrap (kk - 1)).toNat<kk.toNat;rw [w3];omega) rfl (by rw [List.map_append];rfl)
     ·have d2:decide (kk>0)=false:=decide_eq_false hlk
      have w3:IntKind.i64.wrap (v - 1)=v - 1:=Xc (by omega) (by omega)
      refine goX ?_
      exact IH (IntKind.i64.wrap (v - 1),l,(ib,hb)) _ _ ⟨by show 0≤IntKind.i64.wrap (v - 1);rw [w3];omega,by show IntKind.i64.wrap (v - 1)≤8;rw [w3];omega,by show l.length+9*(IntKind.i64.wrap (v - 1)).toNat≤72;rw [w3];omega,hib⟩ (by show (IntKind.i64.wrap (v - 1)).toNat<v.toNat;rw [w3];omega) rfl rfl
    ·have d1:decide (v>0)=false:=decide_eq_false hlt
     clear IH
     refine goX ?_
     try dsimp only
     have hol:out.length≤72:=by omega
     refine evLoop_P (fun e (x:Nat×List Int)=>e.set 6 (.int .i64 (x.1:Int))) (fun h x=>h.set 11 (some ⟨false,false,true,ty40.size,[[.int .i64 c.th,.int .i64 c.keys,.int .i64 c.cap,.int .i64 c.b,.int .i64 c.p,.int .i64 c.cm,.lst ty108.size (YF.1.map fun l=>[AV.lst 3 (l.map opA)]),.lst 1 (x.2.map iA)]]⟩)) (fun x=>x.1≤out.length∧x.2.length=x.1) (fun x=>out.length - x.1) (0,[]) rfl ⟨Nat.zero_le _,rfl⟩ (by show _ - 0<18446744073709551616;omega) ?_
     rintro ⟨i,pk⟩ f ⟨hi',hpk⟩ IH
     simp only at hi' hpk ⊢
     by_cases hlt:i<out.length
     ·have d1:=Xf (f:=iA) hlt
      have d2:=Xg i
      have r1:=Xe (f:=iA) hlt
      have hw:=Xv (k:=i) (by omega)
      have e3:decide (((pk.map iA).length+1)*8≤Yf)=true:=decide_eq_true (by rw [List.length_map];unfold Yf;omega)
      have x1:=fun {x y:R}=>Xn (x:=x) (y:=y) e3
      refine goXD ?_
      clear x1
      exact IH (i+1,pk++[_]) _ _ ⟨hlt,by show (pk++_).length=_;rw [List.length_append,hpk];rfl⟩ (by show _ - (i+1)<_ - i;omega) (by rw [hw];rfl) (by rw [List.map_append];rfl)
     ·have d1:=Xh (f:=iA) (Nat.le_of_not_lt hlt)
      clear IH
      obtain ⟨x1,ia,ha,hca,hia,pa,qa'⟩:=F_spec_l1Below (h:=s.2) (m:=14) hl hs (by omega)
      have fq12:=fun {n:Nat}=>hca n
      refine goX ?_
      have hps:YF.1.length≤4:=by have:=hq.2.1;omega
      have hpa:∀ l∈YF.1,l.length≤5:=fun l hl2=>Nat.le_trans (hq.2.2 l hl2) (by decide)
      have hx:x1=0∨x1=1∨x1=2∨3≤x1:=by omega
      rcases hx with rfl | rfl | rfl | hx
      ·have z0:((0:Int)==0)=true:=rfl
       obtain ⟨c2,ib,hb,hcb,hib,_⟩:=F_spec_l3Any (h:=ha) hl hia
       have fq12:=fun {n:Nat}=>hcb n
       refine goX ?_
       exact hP c2 YF.1 pk (by omega) hpa (by omega)
      ·have z0:((1:Int)==0)=false:=rfl
       have z1:((1:Int)==1)=true:=rfl
       obtain ⟨o,ib,hb,hcb,hib,_⟩:=F_spec_l5Any (h:=ha) hl hia
       have fq12:=fun {n:Nat}=>hcb n
       have e3:decide (((YF.1.map fun l=>[AV.lst 3 (l.map opA)]).length+1)*24≤Yf)=true:=decide_eq_true (by rw [List.length_map];unfold Yf;omega)
       have x1:=fun {x y:R}=>Xn (x:=x) (y:=y) e3
       refine goXD ?_
       clear x1
       have hR:=hP c (YF.1++[[o]]) pk (by rw [List.length_append,List.length_singleton];omega) (fun l hl2=>by
        rcases List.mem_append.1 hl2 with h | h
        ·exact hpa l h
        ·rw [List.mem_singleton.1 h];show 1≤5;decide) (by omega)
       rw [List.map_append] at hR
       exact hR
      ·have z0:((2:Int)==0)=false:=rfl
       have z1:((2:Int)==1)=false:=rfl
       have z2:((2:Int)==2)=true:=rfl
       obtain ⟨y,ib,hb,hcb,hib,_⟩:=F_spec_l1PickInt (h:=ha) (l:=[-1,9,10]) hl hia (by decide)
       replace hcb:∀ n,callP cfg (n+3) 161 [curA bs ia ha,.lst ty3.size [[.int .i64 (-1)],[.int .i64 9],[.int .i64 10]]]=some ⟨.int .i64 y,curO ib hb⟩:=hcb
       have fq12:=fun {n:Nat}=>hcb n
       have e3:decide (((pk.map iA).length+1)*8≤Yf)=true:=decide_eq_true (by rw [List.length_map];unfold Yf;omega)
       have x1:=fun {x y:R}=>Xn (x:=x) (y:=y) e3
       refine goXD ?_
       clear x1
       have hR:=hP c YF.1 (pk++[y]) (by omega) hpa (by rw [List.length_append,List.length_singleton];omega)
       unfold Xl at hR
       rw [List.map_append] at hR
       exact hR
      ·have z0:(x1==0)=false:=Xt (by omega)
       have z1:(x1==1)=false:=Xt (by omega)
       have z2:(x1==2)=false:=Xt (by omega)
       refine goX ?_
       exact hP c YF.1 pk (by omega) hpa (by omega)
end Go.Proofs.YtbploohjimpcaaaGreat.A
