/- What the program's functions answer (Gm): no condition. -/
import Derived.Test.YtbploohjimpcaaaGreatGj
import Derived.Test.YtbploohjimpcaaaGreatLib3
import Derived.Test.YtbploohjimpcaaaGreatJa
import Derived.Test.YtbploohjimpcaaaGreatJb
import Derived.Test.YtbploohjimpcaaaGreatJd
import Derived.Test.YtbploohjimpcaaaGreatJe
import Derived.Test.YtbploohjimpcaaaGreatJf
import Derived.Test.YtbploohjimpcaaaGreatJg
import Derived.Test.YtbploohjimpcaaaGreatJh
import Derived.Test.YtbploohjimpcaaaGreatJi
import Derived.Test.YtbploohjimpcaaaGreatJj
import Derived.Test.YtbploohjimpcaaaGreatJk
set_option linter.unusedVariables false
set_option linter.unusedSimpArgs false
namespace Go.Proofs.YtbploohjimpcaaaGreat.A
open Go Go.Abs
set_option maxRecDepth 100000
theorem S_StepBegin {n:Nat} {s s2:Sta} {p:Nat} (hI:∀ {n:Nat},callP cfg (n+46) 304 [.agg (staA s),.int .i64 (p:Int),.fn 245 [],.fn 305 []]=some ⟨.tup [.agg (staA s2),.bool true],[]⟩):callP cfg (n+47) 246 [.agg (staA s),.int .i64 (p:Int)]=some ⟨.tup [.agg (staA s2),.bool true],[]⟩:=by
 rw [callP_succ]
 have fq1:=@hI
 refine go ?_
 try with_reducible rfl
theorem S_StepWalk {n:Nat} {s s2:Sta} {p:Nat} (hI:∀ {n:Nat},callP cfg (n+46) 304 [.agg (staA s),.int .i64 (p:Int),.fn 247 [],.fn 306 []]=some ⟨.tup [.agg (staA s2),.bool true],[]⟩):callP cfg (n+47) 248 [.agg (staA s),.int .i64 (p:Int)]=some ⟨.tup [.agg (staA s2),.bool true],[]⟩:=by
 rw [callP_succ]
 have fq1:=@hI
 refine go ?_
 try with_reducible rfl
theorem S_StepRead {n:Nat} {s s2:Sta} {p:Nat} (hI:∀ {n:Nat},callP cfg (n+46) 304 [.agg (staA s),.int .i64 (p:Int),.fn 249 [],.fn 307 []]=some ⟨.tup [.agg (staA s2),.bool true],[]⟩):callP cfg (n+47) 250 [.agg (staA s),.int .i64 (p:Int)]=some ⟨.tup [.agg (staA s2),.bool true],[]⟩:=by
 rw [callP_succ]
 have fq1:=@hI
 refine go ?_
 try with_reducible rfl
theorem S_StepWrite {n:Nat} {s s2:Sta} {p:Nat} (hI:∀ {n:Nat},callP cfg (n+46) 304 [.agg (staA s),.int .i64 (p:Int),.fn 251 [],.fn 308 []]=some ⟨.tup [.agg (staA s2),.bool true],[]⟩):callP cfg (n+47) 252 [.agg (staA s),.int .i64 (p:Int)]=some ⟨.tup [.agg (staA s2),.bool true],[]⟩:=by
 rw [callP_succ]
 have fq1:=@hI
 refine go ?_
 try with_reducible rfl
theorem S_StepFlush {n:Nat} {s s2:Sta} {p:Nat} (hI:∀ {n:Nat},callP cfg (n+46) 304 [.agg (staA s),.int .i64 (p:Int),.fn 253 [],.fn 312 []]=some ⟨.tup [.agg (staA s2),.bool true],[]⟩):callP cfg (n+47) 254 [.agg (staA s),.int .i64 (p:Int)]=some ⟨.tup [.agg (staA s2),.bool true],[]⟩:=by
 rw [callP_succ]
 have fq1:=@hI
 refine go ?_
 try with_reducible rfl
theorem S_StepReclaim {n:Nat} {s s2:Sta} {p:Nat} (hI:∀ {n:Nat},callP cfg (n+46) 304 [.agg (staA s),.int .i64 (p:Int),.fn 313 [],.fn 314 []]=some ⟨.tup [.agg (staA s2),.bool true],[]⟩):callP cfg (n+47) 255 [.agg (staA s),.int .i64 (p:Int)]=some ⟨.tup [.agg (staA s2),.bool true],[]⟩:=by
 rw [callP_succ]
 have fq1:=@hI
 refine go ?_
 try with_reducible rfl
theorem S_StepEnd {n:Nat} {s s2:Sta} {p:Nat} (hI:∀ {n:Nat},callP cfg (n+46) 304 [.agg (staA s),.int .i64 (p:Int),.fn 315 [],.fn 316 [.pv [.int .i64 (p:Int)]]]=some ⟨.tup [.agg (staA s2),.bool true],[]⟩):callP cfg (n+47) 256 [.agg (staA s),.int .i64 (p:Int)]=some ⟨.tup [.agg (staA s2),.bool true],[]⟩:=by
 rw [callP_succ]
 have fq1:=@hI
 refine go ?_
 try with_reducible rfl
theorem P_StepBegin {n:Nat} {s s2:Sta} {p:Nat} (hs:staB s=true) (hr:s.room) (hi:s.i64) (hp:p<s.ths.length) (hrun:runB s p=true) (c0:inB (s.th p).pc 1 5=true) (hS:∀ {n:Nat},callP cfg (n+47) 246 [.agg (staA s),.int .i64 (p:Int)]=some ⟨.tup [.agg (staA s2),.bool true],[]⟩):callP cfg (n+48) 166 [.agg (staA s),.int .i64 (p:Int)]=some ⟨.tup [.agg (staA s2),.bool true],[]⟩:=by
 rw [callP_succ]
 have r1:=map_get (f:=thA) hp
 have d1:=lt_map (f:=thA) hp
 have d2:=nonneg p
 have fq11:=@hS
 have fq1:=fun {n:Nat}=>F_impl_IsRunning (n:=n) hs hr hi hp
 have fq2:=@F_impl_IsBeginPc
 refine go ?_
 clear fq1 fq2
 try with_reducible rfl
theorem P_StepWalk {n:Nat} {s s2:Sta} {p:Nat} (hs:staB s=true) (hr:s.room) (hi:s.i64) (hp:p<s.ths.length) (hrun:runB s p=true) (c0:inB (s.th p).pc 1 5=false) (c1:inB (s.th p).pc 10 15=true) (hS:∀ {n:Nat},callP cfg (n+47) 248 [.agg (staA s),.int .i64 (p:Int)]=some ⟨.tup [.agg (staA s2),.bool true],[]⟩):callP cfg (n+48) 166 [.agg (staA s),.int .i64 (p:Int)]=some ⟨.tup [.agg (staA s2),.bool true],[]⟩:=by
 rw [callP_succ]
 have r1:=map_get (f:=thA) hp
 have d1:=lt_map (f:=thA) hp
 have d2:=nonneg p
 have fq11:=@hS
 have fq1:=fun {n:Nat}=>F_impl_IsRunning (n:=n) hs hr hi hp
 have fq2:=@F_impl_IsBeginPc
 have fq3:=@F_impl_IsWalkPc
 refine go ?_
 clear fq1 fq2 fq3
 try with_reducible rfl
theorem P_StepRead {n:Nat} {s s2:Sta} {p:Nat} (hs:staB s=true) (hr:s.room) (hi:s.i64) (hp:p<s.ths.length) (hrun:runB s p=true) (c0:inB (s.th p).pc 1 5=false) (c1:inB (s.th p).pc 10 15=false) (c2:inB (s.th p).pc 16 21=true) (hS:∀ {n:Nat},callP cfg (n+47) 250 [.agg (staA s),.int .i64 (p:Int)]=some ⟨.tup [.agg (staA s2),.bool true],[]⟩):callP cfg (n+48) 166 [.agg (staA s),.int .i64 (p:Int)]=some ⟨.tup [.agg (staA s2),.bool true],[]⟩:=by
 rw [callP_succ]
 have r1:=map_get (f:=thA) hp
 have d1:=lt_map (f:=thA) hp
 have d2:=nonneg p
 have fq11:=@hS
 have fq1:=fun {n:Nat}=>F_impl_IsRunning (n:=n) hs hr hi hp
 have fq2:=@F_impl_IsBeginPc
 have fq3:=@F_impl_IsWalkPc
 have fq4:=@F_impl_IsReadPc
 refine go ?_
 clear fq1 fq2 fq3 fq4
 try with_reducible rfl
theorem P_StepWrite {n:Nat} {s s2:Sta} {p:Nat} (hs:staB s=true) (hr:s.room) (hi:s.i64) (hp:p<s.ths.length) (hrun:runB s p=true) (c0:inB (s.th p).pc 1 5=false) (c1:inB (s.th p).pc 10 15=false) (c2:inB (s.th p).pc 16 21=false) (c3:inB (s.th p).pc 30 47=true) (hS:∀ {n:Nat},callP cfg (n+47) 252 [.agg (staA s),.int .i64 (p:Int)]=some ⟨.tup [.agg (staA s2),.bool true],[]⟩):callP cfg (n+48) 166 [.agg (staA s),.int .i64 (p:Int)]=some ⟨.tup [.agg (staA s2),.bool true],[]⟩:=by
 rw [callP_succ]
 have r1:=map_get (f:=thA) hp
 have d1:=lt_map (f:=thA) hp
 have d2:=nonneg p
 have fq11:=@hS
 have fq1:=fun {n:Nat}=>F_impl_IsRunning (n:=n) hs hr hi hp
 have fq2:=@F_impl_IsBeginPc
 have fq3:=@F_impl_IsWalkPc
 have fq4:=@F_impl_IsReadPc
 have fq5:=@F_impl_IsWritePc
 refine go ?_
 clear fq1 fq2 fq3 fq4 fq5
 try with_reducible rfl
theorem P_StepFlush {n:Nat} {s s2:Sta} {p:Nat} (hs:staB s=true) (hr:s.room) (hi:s.i64) (hp:p<s.ths.length) (hrun:runB s p=true) (c0:inB (s.th p).pc 1 5=false) (c1:inB (s.th p).pc 10 15=false) (c2:inB (s.th p).pc 16 21=false) (c3:inB (s.th p).pc 30 47=false) (c4:((s.th p).pc==50||inB (s.th p).pc 60 63)=true) (hS:∀ {n:Nat},callP cfg (n+47) 254 [.agg (staA s),.int .i64 (p:Int)]=some ⟨.tup [.agg (staA s2),.bool true],[]⟩):callP cfg (n+48) 166 [.agg (staA s),.int .i64 (p:Int)]=some ⟨.tup [.agg (staA s2),.bool true],[]⟩:=by
 rw [callP_succ]
 have r1:=map_get (f:=thA) hp
 have d1:=lt_map (f:=thA) hp
 have d2:=nonneg p
 have fq11:=@hS
 have fq1:=fun {n:Nat}=>F_impl_IsRunning (n:=n) hs hr hi hp
 have fq2:=@F_impl_IsBeginPc
 have fq3:=@F_impl_IsWalkPc
 have fq4:=@F_impl_IsReadPc
 have fq5:=@F_impl_IsWritePc
 have fq6:=@F_impl_IsFlushPc
 refine go ?_
 clear fq1 fq2 fq3 fq4 fq5 fq6
 try with_reducible rfl
theorem P_StepReclaim {n:Nat} {s s2:Sta} {p:Nat} (hs:staB s=true) (hr:s.room) (hi:s.i64) (hp:p<s.ths.length) (hrun:runB s p=true) (c0:inB (s.th p).pc 1 5=false) (c1:inB (s.th p).pc 10 15=false) (c2:inB (s.th p).pc 16 21=false) (c3:inB (s.th p).pc 30 47=false) (c4:((s.th p).pc==50||inB (s.th p).pc 60 63)=false) (c5:((s.th p).pc==70)=true) (hS:∀ {n:Nat},callP cfg (n+47) 255 [.agg (staA s),.int .i64 (p:Int)]=some ⟨.tup [.agg (staA s2),.bool true],[]⟩):callP cfg (n+48) 166 [.agg (staA s),.int .i64 (p:Int)]=some ⟨.tup [.agg (staA s2),.bool true],[]⟩:=by
 rw [callP_succ]
 have r1:=map_get (f:=thA) hp
 have d1:=lt_map (f:=thA) hp
 have d2:=nonneg p
 have fq11:=@hS
 have fq1:=fun {n:Nat}=>F_impl_IsRunning (n:=n) hs hr hi hp
 have fq2:=@F_impl_IsBeginPc
 have fq3:=@F_impl_IsWalkPc
 have fq4:=@F_impl_IsReadPc
 have fq5:=@F_impl_IsWritePc
 have fq6:=@F_impl_IsFlushPc
 refine go ?_
 clear fq1 fq2 fq3 fq4 fq5 fq6
 try with_reducible rfl
theorem P_StepEnd {n:Nat} {s s2:Sta} {p:Nat} (hs:staB s=true) (hr:s.room) (hi:s.i64) (hp:p<s.ths.length) (hrun:runB s p=true) (c0:inB (s.th p).pc 1 5=false) (c1:inB (s.th p).pc 10 15=false) (c2:inB (s.th p).pc 16 21=false) (c3:inB (s.th p).pc 30 47=false) (c4:((s.th p).pc==50||inB (s.th p).pc 60 63)=false) (c5:((s.th p).pc==70)=false) (hS:∀ {n:Nat},callP cfg (n+47) 256 [.agg (staA s),.int .i64 (p:Int)]=some ⟨.tup [.agg (staA s2),.bool true],[]⟩):callP cfg (n+48) 166 [.agg (staA s),.int .i64 (p:Int)]=some ⟨.tup [.agg (staA s2),.bool true],[]⟩:=by
 rw [callP_succ]
 have r1:=map_get (f:=thA) hp
 have d1:=lt_map (f:=thA) hp
 have d2:=nonneg p
 have fq11:=@hS
 have fq1:=fun {n:Nat}=>F_impl_IsRunning (n:=n) hs hr hi hp
 have fq2:=@F_impl_IsBeginPc
 have fq3:=@F_impl_IsWalkPc
 have fq4:=@F_impl_IsReadPc
 have fq5:=@F_impl_IsWritePc
 have fq6:=@F_impl_IsFlushPc
 refine go ?_
 clear fq1 fq2 fq3 fq4 fq5 fq6
 try with_reducible rfl
theorem P_none {n:Nat} {s:Sta} {p:Nat} (hs:staB s=true) (hr:s.room) (hi:s.i64) (hp:p<s.ths.length) (hrun:runB s p=false):callP cfg (n+48) 166 [.agg (staA s),.int .i64 (p:Int)]=some ⟨.tup [.agg (staA s),.bool false],[]⟩:=by
 rw [callP_succ]
 have fq1:=fun {n:Nat}=>F_impl_IsRunning (n:=n) hs hr hi hp
 have fq2:=fun {n:Nat}=>F_impl_copyState (n:=n) hr
 refine go ?_
 clear fq1 fq2
 try with_reducible rfl
set_option maxHeartbeats 4000000 in
theorem F_impl_Step {n:Nat} {s:Sta} {p:Nat} (hs:staB s=true) (hr:s.room) (hi:s.i64) (hp:p<s.ths.length) (h6:I64 (s.th p).seen) (h31:(s.th p).pc=31→0≤(s.th p).seen∧(s.th p).seen<s.c.cap):callP cfg (n+48) 166 [.agg (staA s),.int .i64 (p:Int)]=some ⟨.tup [.agg (staA (if (s.th p).pc=0 then s else stepV s p)),.bool (runB s p)],[]⟩:=by
 by_cases hz:(s.th p).pc=0
 ·have hrun:runB s p=false:=decide_eq_false (by simpa using hz)
  rw [if_pos hz,hrun]
  exact P_none hs hr hi hp hrun
 have hrun:runB s p=true:=decide_eq_true hz
 rw [if_neg hz,hrun]
 obtain ⟨H,N,TT⟩:=st_iff.1 ⟨hs,hi.1⟩
 have hm:=pcMem (TT _ (getD_mem hp)).pcs
 simp only [pcL,List.mem_cons,List.not_mem_nil,or_false] at hm
 rcases hm with h | h | h | h | h | h | h | h | h | h | h | h | h | h | h | h | h | h | h | h | h | h | h | h | h | h | h | h | h | h | h | h | h | h | h | h | h | h | h | h | h | h | h
 ·exact absurd h hz
 ·exact P_StepBegin hs hr hi hp hrun (by rw [h];rfl) (S_StepBegin (I_1 (n:=_+18) hs hr hi hp h))
 ·exact P_StepBegin hs hr hi hp hrun (by rw [h];rfl) (S_StepBegin (I_2 (n:=_+18) hs hr hi hp h))
 ·exact P_StepBegin hs hr hi hp hrun (by rw [h];rfl) (S_StepBegin (I_3 (n:=_+18) hs hr hi hp h))
 ·exact P_StepBegin hs hr hi hp hrun (by rw [h];rfl) (S_StepBegin (I_4 (n:=_+18) hs hr hi hp h))
 ·exact P_StepBegin hs hr hi hp hrun (by rw [h];rfl) (S_StepBegin (I_5 (n:=_+18) hs hr hi hp h))
 ·exact P_StepWalk hs hr hi hp hrun (by rw [h];rfl) (by rw [h];rfl) (S_StepWalk (I_10 (n:=_+18) hs hr hi hp h))
 ·exact P_StepWalk hs hr hi hp hrun (by rw [h];rfl) (by rw [h];rfl) (S_StepWalk (I_11 (n:=_+18) hs hr hi hp h))
 ·exact P_StepWalk hs hr hi hp hrun (by rw [h];rfl) (by rw [h];rfl) (S_StepWalk (I_12 (n:=_+18) hs hr hi hp h))
 ·exact P_StepWalk hs hr hi hp hrun (by rw [h];rfl) (by rw [h];rfl) (S_StepWalk (I_13 (n:=_+18) hs hr hi hp h))
 ·exact P_StepWalk hs hr hi hp hrun (by rw [h];rfl) (by rw [h];rfl) (S_StepWalk (I_14 (n:=_+0) hs hr hi hp h))
 ·exact P_StepWalk hs hr hi hp hrun (by rw [h];rfl) (by rw [h];rfl) (S_StepWalk (I_15 (n:=_+18) hs hr hi hp h))
 ·exact P_StepRead hs hr hi hp hrun (by rw [h];rfl) (by rw [h];rfl) (by rw [h];rfl) (S_StepRead (I_16 (n:=_+18) hs hr hi hp h))
 ·exact P_StepRead hs hr hi hp hrun (by rw [h];rfl) (by rw [h];rfl) (by rw [h];rfl) (S_StepRead (I_17 (n:=_+18) hs hr hi hp h))
 ·exact P_StepRead hs hr hi hp hrun (by rw [h];rfl) (by rw [h];rfl) (by rw [h];rfl) (S_StepRead (I_18 (n:=_+18) hs hr hi hp h))
 ·exact P_StepRead hs hr hi hp hrun (by rw [h];rfl) (by rw [h];rfl) (by rw [h];rfl) (S_StepRead (I_19 (n:=_+18) hs hr hi hp h))
 ·exact P_StepRead hs hr hi hp hrun (by rw [h];rfl) (by rw [h];rfl) (by rw [h];rfl) (S_StepRead (I_20 (n:=_+18) hs hr hi hp h))
 ·exact P_StepRead hs hr hi hp hrun (by rw [h];rfl) (by rw [h];rfl) (by rw [h];rfl) (S_StepRead (I_21 (n:=_+18) hs hr hi hp h))
 ·exact P_StepWrite hs hr hi hp hrun (by rw [h];rfl) (by rw [h];rfl) (by rw [h];rfl) (by rw [h];rfl) (S_StepWrite (I_30 (n:=_+16) hs hr hi hp h))
 ·exact P_StepWrite hs hr hi hp hrun (by rw [h];rfl) (by rw [h];rfl) (by rw [h];rfl) (by rw [h];rfl) (S_StepWrite (I_31 (n:=_+16) hs hr hi hp h (h31 h)))
 ·exact P_StepWrite hs hr hi hp hrun (by rw [h];rfl) (by rw [h];rfl) (by rw [h];rfl) (by rw [h];rfl) (S_StepWrite (I_32 (n:=_+16) hs hr hi hp h))
 ·exact P_StepWrite hs hr hi hp hrun (by rw [h];rfl) (by rw [h];rfl) (by rw [h];rfl) (by rw [h];rfl) (S_StepWrite (I_33 (n:=_+16) hs hr hi hp h))
 ·exact P_StepWrite hs hr hi hp hrun (by rw [h];rfl) (by rw [h];rfl) (by rw [h];rfl) (by rw [h];rfl) (S_StepWrite (I_34 (n:=_+16) hs hr hi hp h))
 ·exact P_StepWrite hs hr hi hp hrun (by rw [h];rfl) (by rw [h];rfl) (by rw [h];rfl) (by rw [h];rfl) (S_StepWrite (I_35 (n:=_+16) hs hr hi hp h))
 ·exact P_StepWrite hs hr hi hp hrun (by rw [h];rfl) (by rw [h];rfl) (by rw [h];rfl) (by rw [h];rfl) (S_StepWrite (I_36 (n:=_+16) hs hr hi hp h))
 ·exact P_StepWrite hs hr hi hp hrun (by rw [h];rfl) (by rw [h];rfl) (by rw [h];rfl) (by rw [h];rfl) (S_StepWrite (I_37 (n:=_+16) hs hr hi hp h))
 ·exact P_StepWrite hs hr hi hp hrun (by rw [h];rfl) (by rw [h];rfl) (by rw [h];rfl) (by rw [h];rfl) (S_StepWrite (I_38 (n:=_+16) hs hr hi hp h))
 ·exact P_StepWrite hs hr hi hp hrun (by rw [h];rfl) (by rw [h];rfl) (by rw [h];rfl) (by rw [h];rfl) (S_StepWrite (I_39 (n:=_+16) hs hr hi hp h))
 ·exact P_StepWrite hs hr hi hp hrun (by rw [h];rfl) (by rw [h];rfl) (by rw [h];rfl) (by rw [h];rfl) (S_StepWrite (I_40 (n:=_+16) hs hr hi hp h))
 ·exact P_StepWrite hs hr hi hp hrun (by rw [h];rfl) (by rw [h];rfl) (by rw [h];rfl) (by rw [h];rfl) (S_StepWrite (I_41 (n:=_+16) hs hr hi hp h))
 ·exact P_StepWrite hs hr hi hp hrun (by rw [h];rfl) (by rw [h];rfl) (by rw [h];rfl) (by rw [h];rfl) (S_StepWrite (I_42 (n:=_+16) hs hr hi hp h))
 ·exact P_StepWrite hs hr hi hp hrun (by rw [h];rfl) (by rw [h];rfl) (by rw [h];rfl) (by rw [h];rfl) (S_StepWrite (I_43 (n:=_+16) hs hr hi hp h))
 ·exact P_StepWrite hs hr hi hp hrun (by rw [h];rfl) (by rw [h];rfl) (by rw [h];rfl) (by rw [h];rfl) (S_StepWrite (I_44 (n:=_+16) hs hr hi hp h))
 ·exact P_StepWrite hs hr hi hp hrun (by rw [h];rfl) (by rw [h];rfl) (by rw [h];rfl) (by rw [h];rfl) (S_StepWrite (I_45 (n:=_+16) hs hr hi hp h))
 ·exact P_StepWrite hs hr hi hp hrun (by rw [h];rfl) (by rw [h];rfl) (by rw [h];rfl) (by rw [h];rfl) (S_StepWrite (I_46 (n:=_+16) hs hr hi hp h))
 ·exact P_StepWrite hs hr hi hp hrun (by rw [h];rfl) (by rw [h];rfl) (by rw [h];rfl) (by rw [h];rfl) (S_StepWrite (I_47 (n:=_+16) hs hr hi hp h))
 ·exact P_StepFlush hs hr hi hp hrun (by rw [h];rfl) (by rw [h];rfl) (by rw [h];rfl) (by rw [h];rfl) (by rw [h];rfl) (S_StepFlush (I_50 (n:=_+16) hs hr hi hp h))
 ·exact P_StepFlush hs hr hi hp hrun (by rw [h];rfl) (by rw [h];rfl) (by rw [h];rfl) (by rw [h];rfl) (by rw [h];rfl) (S_StepFlush (I_60 (n:=_+16) hs hr hi hp h))
 ·exact P_StepFlush hs hr hi hp hrun (by rw [h];rfl) (by rw [h];rfl) (by rw [h];rfl) (by rw [h];rfl) (by rw [h];rfl) (S_StepFlush (I_61 (n:=_+16) hs hr hi hp h h6))
 ·exact P_StepFlush hs hr hi hp hrun (by rw [h];rfl) (by rw [h];rfl) (by rw [h];rfl) (by rw [h];rfl) (by rw [h];rfl) (S_StepFlush (I_62 (n:=_+16) hs hr hi hp h))
 ·exact P_StepFlush hs hr hi hp hrun (by rw [h];rfl) (by rw [h];rfl) (by rw [h];rfl) (by rw [h];rfl) (by rw [h];rfl) (S_StepFlush (I_63 (n:=_+16) hs hr hi hp h))
 ·exact P_StepReclaim hs hr hi hp hrun (by rw [h];rfl) (by rw [h];rfl) (by rw [h];rfl) (by rw [h];rfl) (by rw [h];rfl) (by rw [h];rfl) (S_StepReclaim (I_70 (n:=_+14) hs hr hi hp h))
 ·exact P_StepEnd hs hr hi hp hrun (by rw [h];rfl) (by rw [h];rfl) (by rw [h];rfl) (by rw [h];rfl) (by rw [h];rfl) (by rw [h];rfl) (S_StepEnd (I_80 (n:=_+16) hs hr hi hp h))
end Go.Proofs.YtbploohjimpcaaaGreat.A
