/- What the program's functions answer (Gm): no condition. -/
import Derived.Test.YtbploohjimpcaaaGreatGj
import Derived.Test.YtbploohjimpcaaaGreatLib3
import Derived.Test.YtbploohjimpcaaaGreatJa
import Derived.Test.YtbploohjimpcaaaGreatJb
import Derived.Test.YtbploohjimpcaaaGreatJd
import Derived.Test.YtbploohjimpcaaaGreatJe
import Derived.Test.YtbploohjimpcaaaGreatJf
import Derived.Test.YtbploohjimpcaaaGreatJg
import Derived.Test.YtbploohjimpcaaaGreatJh
import Derived.Test.YtbploohjimpcaaaGreatJi
import Derived.Test.YtbploohjimpcaaaGreatJj
import Derived.Test.YtbploohjimpcaaaGreatJk
set_option linter.unusedVariables false
set_option linter.unusedSimpArgs false
namespace Go.Proofs.YtbploohjimpcaaaGreat.A
open Go Go.Abs
set_option maxRecDepth 100000
theorem Xa9 {n:Nat} {s s2:Sta} {p:Nat} (hI:∀ {n:Nat},callP cfg (n+46) 304 [.agg (staA s),.int .i64 (p:Int),.fn 245 [],.fn 305 []]=some ⟨.tup [.agg (staA s2),.bool true],[]⟩):callP cfg (n+47) 246 [.agg (staA s),.int .i64 (p:Int)]=some ⟨.tup [.agg (staA s2),.bool true],[]⟩:=by
 rw [Xa]
 have fq1:=@hI
 refine go ?_
 try with_reducible rfl
theorem Xaw {n:Nat} {s s2:Sta} {p:Nat} (hI:∀ {n:Nat},callP cfg (n+46) 304 [.agg (staA s),.int .i64 (p:Int),.fn 247 [],.fn 306 []]=some ⟨.tup [.agg (staA s2),.bool true],[]⟩):callP cfg (n+47) 248 [.agg (staA s),.int .i64 (p:Int)]=some ⟨.tup [.agg (staA s2),.bool true],[]⟩:=by
 rw [Xa]
 have fq1:=@hI
 refine go ?_
 try with_reducible rfl
theorem Xax {n:Nat} {s s2:Sta} {p:Nat} (hI:∀ {n:Nat},callP cfg (n+46) 304 [.agg (staA s),.int .i64 (p:Int),.fn 249 [],.fn 307 []]=some ⟨.tup [.agg (staA s2),.bool true],[]⟩):callP cfg (n+47) 250 [.agg (staA s),.int .i64 (p:Int)]=some ⟨.tup [.agg (staA s2),.bool true],[]⟩:=by
 rw [Xa]
 have fq1:=@hI
 refine go ?_
 try with_reducible rfl
theorem Y6 {n:Nat} {s s2:Sta} {p:Nat} (hI:∀ {n:Nat},callP cfg (n+46) 304 [.agg (staA s),.int .i64 (p:Int),.fn 251 [],.fn 308 []]=some ⟨.tup [.agg (staA s2),.bool true],[]⟩):callP cfg (n+47) 252 [.agg (staA s),.int .i64 (p:Int)]=some ⟨.tup [.agg (staA s2),.bool true],[]⟩:=by
 rw [Xa]
 have fq1:=@hI
 refine go ?_
 try with_reducible rfl
theorem Xba {n:Nat} {s s2:Sta} {p:Nat} (hI:∀ {n:Nat},callP cfg (n+46) 304 [.agg (staA s),.int .i64 (p:Int),.fn 253 [],.fn 312 []]=some ⟨.tup [.agg (staA s2),.bool true],[]⟩):callP cfg (n+47) 254 [.agg (staA s),.int .i64 (p:Int)]=some ⟨.tup [.agg (staA s2),.bool true],[]⟩:=by
 rw [Xa]
 have fq1:=@hI
 refine go ?_
 try with_reducible rfl
theorem Xn1 {n:Nat} {s s2:Sta} {p:Nat} (hI:∀ {n:Nat},callP cfg (n+46) 304 [.agg (staA s),.int .i64 (p:Int),.fn 313 [],.fn 314 []]=some ⟨.tup [.agg (staA s2),.bool true],[]⟩):callP cfg (n+47) 255 [.agg (staA s),.int .i64 (p:Int)]=some ⟨.tup [.agg (staA s2),.bool true],[]⟩:=by
 rw [Xa]
 have fq1:=@hI
 refine go ?_
 try with_reducible rfl
theorem Xxr {n:Nat} {s s2:Sta} {p:Nat} (hI:∀ {n:Nat},callP cfg (n+46) 304 [.agg (staA s),.int .i64 (p:Int),.fn 315 [],.fn 316 [.pv [.int .i64 (p:Int)]]]=some ⟨.tup [.agg (staA s2),.bool true],[]⟩):callP cfg (n+47) 256 [.agg (staA s),.int .i64 (p:Int)]=some ⟨.tup [.agg (staA s2),.bool true],[]⟩:=by
 rw [Xa]
 have fq1:=@hI
 refine go ?_
 try with_reducible rfl
theorem Xbb {n:Nat} {s s2:Sta} {p:Nat} (hs:staB s=true) (hr:s.room) (hi:s.i64) (hp:p<s.ths.length) (hrun:runB s p=true) (c0:inB (s.th p).pc 1 5=true) (hS:∀ {n:Nat},callP cfg (n+47) 246 [.agg (staA s),.int .i64 (p:Int)]=some ⟨.tup [.agg (staA s2),.bool true],[]⟩):callP cfg (n+48) 166 [.agg (staA s),.int .i64 (p:Int)]=some ⟨.tup [.agg (staA s2),.bool true],[]⟩:=by
 rw [Xa]
 have r1:=Xe (f:=thA) hp
 have d1:=Xf (f:=thA) hp
 have d2:=Xg p
 have fq11:=@hS
 have fq1:=fun {n:Nat}=>Y8 (n:=n) hs hr hi hp
 have fq2:=@Z4
 refine go ?_
 clear fq1 fq2
 try with_reducible rfl
theorem Xay {n:Nat} {s s2:Sta} {p:Nat} (hs:staB s=true) (hr:s.room) (hi:s.i64) (hp:p<s.ths.length) (hrun:runB s p=true) (c0:inB (s.th p).pc 1 5=false) (c1:inB (s.th p).pc 10 15=true) (hS:∀ {n:Nat},callP cfg (n+47) 248 [.agg (staA s),.int .i64 (p:Int)]=some ⟨.tup [.agg (staA s2),.bool true],[]⟩):callP cfg (n+48) 166 [.agg (staA s),.int .i64 (p:Int)]=some ⟨.tup [.agg (staA s2),.bool true],[]⟩:=by
 rw [Xa]
 have r1:=Xe (f:=thA) hp
 have d1:=Xf (f:=thA) hp
 have d2:=Xg p
 have fq11:=@hS
 have fq1:=fun {n:Nat}=>Y8 (n:=n) hs hr hi hp
 have fq2:=@Z4
 have fq3:=@Wr
 refine go ?_
 clear fq1 fq2 fq3
 try with_reducible rfl
theorem Xaz {n:Nat} {s s2:Sta} {p:Nat} (hs:staB s=true) (hr:s.room) (hi:s.i64) (hp:p<s.ths.length) (hrun:runB s p=true) (c0:inB (s.th p).pc 1 5=false) (c1:inB (s.th p).pc 10 15=false) (c2:inB (s.th p).pc 16 21=true) (hS:∀ {n:Nat},callP cfg (n+47) 250 [.agg (staA s),.int .i64 (p:Int)]=some ⟨.tup [.agg (staA s2),.bool true],[]⟩):callP cfg (n+48) 166 [.agg (staA s),.int .i64 (p:Int)]=some ⟨.tup [.agg (staA s2),.bool true],[]⟩:=by
 rw [Xa]
 have r1:=Xe (f:=thA) hp
 have d1:=Xf (f:=thA) hp
 have d2:=Xg p
 have fq11:=@hS
 have fq1:=fun {n:Nat}=>Y8 (n:=n) hs hr hi hp
 have fq2:=@Z4
 have fq3:=@Wr
 have fq4:=@Vj
 refine go ?_
 clear fq1 fq2 fq3 fq4
 try with_reducible rfl
theorem Y7 {n:Nat} {s s2:Sta} {p:Nat} (hs:staB s=true) (hr:s.room) (hi:s.i64) (hp:p<s.ths.length) (hrun:runB s p=true) (c0:inB (s.th p).pc 1 5=false) (c1:inB (s.th p).pc 10 15=false) (c2:inB (s.th p).pc 16 21=false) (c3:inB (s.th p).pc 30 47=true) (hS:∀ {n:Nat},callP cfg (n+47) 252 [.agg (staA s),.int .i64 (p:Int)]=some ⟨.tup [.agg (staA s2),.bool true],[]⟩):callP cfg (n+48) 166 [.agg (staA s),.int .i64 (p:Int)]=some ⟨.tup [.agg (staA s2),.bool true],[]⟩:=by
 rw [Xa]
 have r1:=Xe (f:=thA) hp
 have d1:=Xf (f:=thA) hp
 have d2:=Xg p
 have fq11:=@hS
 have fq1:=fun {n:Nat}=>Y8 (n:=n) hs hr hi hp
 have fq2:=@Z4
 have fq3:=@Wr
 have fq4:=@Vj
 have fq5:=@Ua
 refine go ?_
 clear fq1 fq2 fq3 fq4 fq5
 try with_reducible rfl
theorem Xbc {n:Nat} {s s2:Sta} {p:Nat} (hs:staB s=true) (hr:s.room) (hi:s.i64) (hp:p<s.ths.length) (hrun:runB s p=true) (c0:inB (s.th p).pc 1 5=false) (c1:inB (s.th p).pc 10 15=false) (c2:inB (s.th p).pc 16 21=false) (c3:inB (s.th p).pc 30 47=false) (c4:((s.th p).pc==50||inB (s.th p).pc 60 63)=true) (hS:∀ {n:Nat},callP cfg (n+47) 254 [.agg (staA s),.int .i64 (p:Int)]=some ⟨.tup [.agg (staA s2),.bool true],[]⟩):callP cfg (n+48) 166 [.agg (staA s),.int .i64 (p:Int)]=some ⟨.tup [.agg (staA s2),.bool true],[]⟩:=by
 rw [Xa]
 have r1:=Xe (f:=thA) hp
 have d1:=Xf (f:=thA) hp
 have d2:=Xg p
 have fq11:=@hS
 have fq1:=fun {n:Nat}=>Y8 (n:=n) hs hr hi hp
 have fq2:=@Z4
 have fq3:=@Wr
 have fq4:=@Vj
 have fq5:=@Ua
 have fq6:=@U1
 refine go ?_
 clear fq1 fq2 fq3 fq4 fq5 fq6
 try with_reducible rfl
theorem Xn2 {n:Nat} {s s2:Sta} {p:Nat} (hs:staB s=true) (hr:s.room) (hi:s.i64) (hp:p<s.ths.length) (hrun:runB s p=true) (c0:inB (s.th p).pc 1 5=false) (c1:inB (s.th p).pc 10 15=false) (c2:inB (s.th p).pc 16 21=false) (c3:inB (s.th p).pc 30 47=false) (c4:((s.th p).pc==50||inB (s.th p).pc 60 63)=false) (c5:((s.th p).pc==70)=true) (hS:∀ {n:Nat},callP cfg (n+47) 255 [.agg (staA s),.int .i64 (p:Int)]=some ⟨.tup [.agg (staA s2),.bool true],[]⟩):callP cfg (n+48) 166 [.agg (staA s),.int .i64 (p:Int)]=some ⟨.tup [.agg (staA s2),.bool true],[]⟩:=by
 rw [Xa]
 have r1:=Xe (f:=thA) hp
 have d1:=Xf (f:=thA) hp
 have d2:=Xg p
 have fq11:=@hS
 have fq1:=fun {n:Nat}=>Y8 (n:=n) hs hr hi hp
 have fq2:=@Z4
 have fq3:=@Wr
 have fq4:=@Vj
 have fq5:=@Ua
 have fq6:=@U1
 refine go ?_
 clear fq1 fq2 fq3 fq4 fq5 fq6
 try with_reducible rfl
theorem Xxs {n:Nat} {s s2:Sta} {p:Nat} (hs:staB s=true) (hr:s.room) (hi:s.i64) (hp:p<s.ths.length) (hrun:runB s p=true) (c0:inB (s.th p).pc 1 5=false) (c1:inB (s.th p).pc 10 15=false) (c2:inB (s.th p).pc 16 21=false) (c3:inB (s.th p).pc 30 47=false) (c4:((s.th p).pc==50||inB (s.th p).pc 60 63)=false) (c5:((s.th p).pc==70)=false) (hS:∀ {n:Nat},callP cfg (n+47) 256 [.agg (staA s),.int .i64 (p:Int)]=some ⟨.tup [.agg (staA s2),.bool true],[]⟩):callP cfg (n+48) 166 [.agg (staA s),.int .i64 (p:Int)]=some ⟨.tup [.agg (staA s2),.bool true],[]⟩:=by
 rw [Xa]
 have r1:=Xe (f:=thA) hp
 have d1:=Xf (f:=thA) hp
 have d2:=Xg p
 have fq11:=@hS
 have fq1:=fun {n:Nat}=>Y8 (n:=n) hs hr hi hp
 have fq2:=@Z4
 have fq3:=@Wr
 have fq4:=@Vj
 have fq5:=@Ua
 have fq6:=@U1
 refine go ?_
 clear fq1 fq2 fq3 fq4 fq5 fq6
 try with_reducible rfl
theorem X5n {n:Nat} {s:Sta} {p:Nat} (hs:staB s=true) (hr:s.room) (hi:s.i64) (hp:p<s.ths.length) (hrun:runB s p=false):callP cfg (n+48) 166 [.agg (staA s),.int .i64 (p:Int)]=some ⟨.tup [.agg (staA s),.bool false],[]⟩:=by
 rw [Xa]
 have fq1:=fun {n:Nat}=>Y8 (n:=n) hs hr hi hp
 have fq2:=fun {n:Nat}=>Yz (n:=n) hr
 refine go ?_
 clear fq1 fq2
 try with_reducible rfl
set_option maxHeartbeats 4000000 in
theorem Xsz {n:Nat} {s:Sta} {p:Nat} (hs:staB s=true) (hr:s.room) (hi:s.i64) (hp:p<s.ths.length) (h6:I64 (s.th p).seen) (h31:(s.th p).pc=31→0≤(s.th p).seen∧(s.th p).seen<s.c.cap):callP cfg (n+48) 166 [.agg (staA s),.int .i64 (p:Int)]=some ⟨.tup [.agg (staA (if (s.th p).pc=0 then s else stepV s p)),.bool (runB s p)],[]⟩:=by
 by_cases hz:(s.th p).pc=0
 ·have hrun:runB s p=false:=decide_eq_false (by simpa using hz)
  rw [if_pos hz,hrun]
  exact X5n hs hr hi hp hrun
 have hrun:runB s p=true:=decide_eq_true hz
 rw [if_neg hz,hrun]
 obtain ⟨H,N,TT⟩:=Xfy.1 ⟨hs,hi.1⟩
 have hm:=X0d (TT _ (Xi hp)).pcs
 simp only [pcL,List.mem_cons,List.not_mem_nil,or_false] at hm
 rcases hm with h | h | h | h | h | h | h | h | h | h | h | h | h | h | h | h | h | h | h | h | h | h | h | h | h | h | h | h | h | h | h | h | h | h | h | h | h | h | h | h | h | h | h
 ·exact absurd h hz
 ·exact Xbb hs hr hi hp hrun (by rw [h];rfl) (Xa9 (I_1 (n:=_+18) hs hr hi hp h))
 ·exact Xbb hs hr hi hp hrun (by rw [h];rfl) (Xa9 (I_2 (n:=_+18) hs hr hi hp h))
 ·exact Xbb hs hr hi hp hrun (by rw [h];rfl) (Xa9 (I_3 (n:=_+18) hs hr hi hp h))
 ·exact Xbb hs hr hi hp hrun (by rw [h];rfl) (Xa9 (I_4 (n:=_+18) hs hr hi hp h))
 ·exact Xbb hs hr hi hp hrun (by rw [h];rfl) (Xa9 (I_5 (n:=_+18) hs hr hi hp h))
 ·exact Xay hs hr hi hp hrun (by rw [h];rfl) (by rw [h];rfl) (Xaw (I_10 (n:=_+18) hs hr hi hp h))
 ·exact Xay hs hr hi hp hrun (by rw [h];rfl) (by rw [h];rfl) (Xaw (I_11 (n:=_+18) hs hr hi hp h))
 ·exact Xay hs hr hi hp hrun (by rw [h];rfl) (by rw [h];rfl) (Xaw (I_12 (n:=_+18) hs hr hi hp h))
 ·exact Xay hs hr hi hp hrun (by rw [h];rfl) (by rw [h];rfl) (Xaw (I_13 (n:=_+18) hs hr hi hp h))
 ·exact Xay hs hr hi hp hrun (by rw [h];rfl) (by rw [h];rfl) (Xaw (I_14 (n:=_+0) hs hr hi hp h))
 ·exact Xay hs hr hi hp hrun (by rw [h];rfl) (by rw [h];rfl) (Xaw (I_15 (n:=_+18) hs hr hi hp h))
 ·exact Xaz hs hr hi hp hrun (by rw [h];rfl) (by rw [h];rfl) (by rw [h];rfl) (Xax (I_16 (n:=_+18) hs hr hi hp h))
 ·exact Xaz hs hr hi hp hrun (by rw [h];rfl) (by rw [h];rfl) (by rw [h];rfl) (Xax (I_17 (n:=_+18) hs hr hi hp h))
 ·exact Xaz hs hr hi hp hrun (by rw [h];rfl) (by rw [h];rfl) (by rw [h];rfl) (Xax (I_18 (n:=_+18) hs hr hi hp h))
 ·exact Xaz hs hr hi hp hrun (by rw [h];rfl) (by rw [h];rfl) (by rw [h];rfl) (Xax (I_19 (n:=_+18) hs hr hi hp h))
 ·exact Xaz hs hr hi hp hrun (by rw [h];rfl) (by rw [h];rfl) (by rw [h];rfl) (Xax (I_20 (n:=_+18) hs hr hi hp h))
 ·exact Xaz hs hr hi hp hrun (by rw [h];rfl) (by rw [h];rfl) (by rw [h];rfl) (Xax (I_21 (n:=_+18) hs hr hi hp h))
 ·exact Y7 hs hr hi hp hrun (by rw [h];rfl) (by rw [h];rfl) (by rw [h];rfl) (by rw [h];rfl) (Y6 (I_30 (n:=_+16) hs hr hi hp h))
 ·exact Y7 hs hr hi hp hrun (by rw [h];rfl) (by rw [h];rfl) (by rw [h];rfl) (by rw [h];rfl) (Y6 (I_31 (n:=_+16) hs hr hi hp h (h31 h)))
 ·exact Y7 hs hr hi hp hrun (by rw [h];rfl) (by rw [h];rfl) (by rw [h];rfl) (by rw [h];rfl) (Y6 (I_32 (n:=_+16) hs hr hi hp h))
 ·exact Y7 hs hr hi hp hrun (by rw [h];rfl) (by rw [h];rfl) (by rw [h];rfl) (by rw [h];rfl) (Y6 (I_33 (n:=_+16) hs hr hi hp h))
 ·exact Y7 hs hr hi hp hrun (by rw [h];rfl) (by rw [h];rfl) (by rw [h];rfl) (by rw [h];rfl) (Y6 (I_34 (n:=_+16) hs hr hi hp h))
 ·exact Y7 hs hr hi hp hrun (by rw [h];rfl) (by rw [h];rfl) (by rw [h];rfl) (by rw [h];rfl) (Y6 (I_35 (n:=_+16) hs hr hi hp h))
 ·exact Y7 hs hr hi hp hrun (by rw [h];rfl) (by rw [h];rfl) (by rw [h];rfl) (by rw [h];rfl) (Y6 (I_36 (n:=_+16) hs hr hi hp h))
 ·exact Y7 hs hr hi hp hrun (by rw [h];rfl) (by rw [h];rfl) (by rw [h];rfl) (by rw [h];rfl) (Y6 (I_37 (n:=_+16) hs hr hi hp h))
 ·exact Y7 hs hr hi hp hrun (by rw [h];rfl) (by rw [h];rfl) (by rw [h];rfl) (by rw [h];rfl) (Y6 (I_38 (n:=_+16) hs hr hi hp h))
 ·exact Y7 hs hr hi hp hrun (by rw [h];rfl) (by rw [h];rfl) (by rw [h];rfl) (by rw [h];rfl) (Y6 (I_39 (n:=_+16) hs hr hi hp h))
 ·exact Y7 hs hr hi hp hrun (by rw [h];rfl) (by rw [h];rfl) (by rw [h];rfl) (by rw [h];rfl) (Y6 (I_40 (n:=_+16) hs hr hi hp h))
 ·exact Y7 hs hr hi hp hrun (by rw [h];rfl) (by rw [h];rfl) (by rw [h];rfl) (by rw [h];rfl) (Y6 (I_41 (n:=_+16) hs hr hi hp h))
 ·exact Y7 hs hr hi hp hrun (by rw [h];rfl) (by rw [h];rfl) (by rw [h];rfl) (by rw [h];rfl) (Y6 (I_42 (n:=_+16) hs hr hi hp h))
 ·exact Y7 hs hr hi hp hrun (by rw [h];rfl) (by rw [h];rfl) (by rw [h];rfl) (by rw [h];rfl) (Y6 (I_43 (n:=_+16) hs hr hi hp h))
 ·exact Y7 hs hr hi hp hrun (by rw [h];rfl) (by rw [h];rfl) (by rw [h];rfl) (by rw [h];rfl) (Y6 (I_44 (n:=_+16) hs hr hi hp h))
 ·exact Y7 hs hr hi hp hrun (by rw [h];rfl) (by rw [h];rfl) (by rw [h];rfl) (by rw [h];rfl) (Y6 (I_45 (n:=_+16) hs hr hi hp h))
 ·exact Y7 hs hr hi hp hrun (by rw [h];rfl) (by rw [h];rfl) (by rw [h];rfl) (by rw [h];rfl) (Y6 (I_46 (n:=_+16) hs hr hi hp h))
 ·exact Y7 hs hr hi hp hrun (by rw [h];rfl) (by rw [h];rfl) (by rw [h];rfl) (by rw [h];rfl) (Y6 (I_47 (n:=_+16) hs hr hi hp h))
 ·exact Xbc hs hr hi hp hrun (by rw [h];rfl) (by rw [h];rfl) (by rw [h];rfl) (by rw [h];rfl) (by rw [h];rfl) (Xba (I_50 (n:=_+16) hs hr hi hp h))
 ·exact Xbc hs hr hi hp hrun (by rw [h];rfl) (by rw [h];rfl) (by rw [h];rfl) (by rw [h];rfl) (by rw [h];rfl) (Xba (I_60 (n:=_+16) hs hr hi hp h))
 ·exact Xbc hs hr hi hp hrun (by rw [h];rfl) (by rw [h];rfl) (by rw [h];rfl) (by rw [h];rfl) (by rw [h];rfl) (Xba (I_61 (n:=_+16) hs hr hi hp h h6))
 ·exact Xbc hs hr hi hp hrun (by rw [h];rfl) (by rw [h];rfl) (by rw [h];rfl) (by rw [h];rfl) (by rw [h];rfl) (Xba (I_62 (n:=_+16) hs hr hi hp h))
 ·exact Xbc hs hr hi hp hrun (by rw [h];rfl) (by rw [h];rfl) (by rw [h];rfl) (by rw [h];rfl) (by rw [h];rfl) (Xba (I_63 (n:=_+16) hs hr hi hp h))
 ·exact Xn2 hs hr hi hp hrun (by rw [h];rfl) (by rw [h];rfl) (by rw [h];rfl) (by rw [h];rfl) (by rw [h];rfl) (by rw [h];rfl) (Xn1 (I_70 (n:=_+14) hs hr hi hp h))
 ·exact Xxs hs hr hi hp hrun (by rw [h];rfl) (by rw [h];rfl) (by rw [h];rfl) (by rw [h];rfl) (by rw [h];rfl) (by rw [h];rfl) (Xxr (I_80 (n:=_+16) hs hr hi hp h))
end Go.Proofs.YtbploohjimpcaaaGreat.A
