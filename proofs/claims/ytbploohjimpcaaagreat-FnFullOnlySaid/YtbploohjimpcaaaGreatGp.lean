/- What the program's functions answer (Gp): no condition. -/
import Derived.Test.YtbploohjimpcaaaGreatGg
import Derived.Test.YtbploohjimpcaaaGreatGi
import Derived.Test.YtbploohjimpcaaaGreatKa
import Derived.Test.YtbploohjimpcaaaGreatKb
import Derived.Test.YtbploohjimpcaaaGreatKc
import Derived.Test.YtbploohjimpcaaaGreatKg
import Derived.Test.YtbploohjimpcaaaGreatKh
import Derived.Test.YtbploohjimpcaaaGreatKi
import Derived.Test.YtbploohjimpcaaaGreatKj
import Derived.Test.YtbploohjimpcaaaGreatKk
import Derived.Test.YtbploohjimpcaaaGreatKn
import Derived.Test.YtbploohjimpcaaaGreatKo
import Derived.Test.YtbploohjimpcaaaGreatKp
set_option linter.unusedVariables false
set_option linter.unusedSimpArgs false
namespace Go.Proofs.YtbploohjimpcaaaGreat.A
open Go Go.Abs
set_option maxRecDepth 100000
noncomputable section
abbrev evA (e:Ev):List AV:=[.int .i64 e.th,.int .i64 e.op.k,.int .i64 e.op.key,.int .i64 e.op.v,.int .i64 e.res.c,.int .i64 e.res.v,.int .i64 e.st,.int .i64 e.en]
abbrev evsA (l:List Ev):AV:=.lst 8 (l.map evA)
abbrev opsA (l:List Op3):AV:=.lst 3 (l.map opA)
abbrev Xp (l:List Op3):List AV:=[opsA l]
abbrev Yt (l:List (List Op3)):AV:=.lst 1 (l.map Xp)
abbrev macA (m:Mac):List AV:=[.int .i64 m.s.c.th,.int .i64 m.s.c.keys,.int .i64 m.s.c.cap,.int .i64 m.s.c.b,.int .i64 m.s.c.p,.int .i64 m.s.c.cm,Xl m.s.cells,Xl m.s.gens,thsA m.s.ths,.int .i64 m.s.steps,.int .i64 m.s.changes,.int .i64 m.s.retries,.int .i64 m.s.faults,Yt m.progs,Xl m.next,evsA m.evs,.int .i64 m.time]
theorem Xxt {h:Int} (hh:isH h=true):0≤h∧h≤2000000:=by
 have:=of_decide_eq_true hh
 omega
theorem Xuo {c:Cf} {h:Int} (hl:Y4 c h=true):I64 h:=by
 unfold Y4 at hl
 simp only [Bool.and_eq_true] at hl
 have:=Xxt hl.1
 constructor <;> omega
theorem TV.room {c:Cf} {t:Th} (T:TV c t):t.room:=by
 have:=T.lf;have:=T.ll;have:=T.lo;have:=T.lb;have:=T.lw
 exact ⟨by omega,by omega,by omega,by omega,by omega⟩
theorem TV.i64 {c:Cf} {t:Th} (T:TV c t):t.i64:=⟨Q8 T.nd,Q8 T.pv,Q8 T.cr,Xsu T.nx,fun e he=>Xuo (T.bf e he).2,fun e he=>Xuo (T.wf e he).2,fun h hh=>Xuo (T.lm h hh)⟩
theorem SI.room {s:Sta} {ns:Nat→Nat} (S:SI s ns):s.room:=by
 have hb:=Xm S.cv.cf
 have:=S.cv.lc;have:=S.cv.lg;have:=S.cv.lt
 refine ⟨by omega,by omega,by omega,fun t ht=>?_⟩
 obtain ⟨i,hi,rfl⟩:=mem_get ht
 exact (S.tv i hi).1.room
theorem SI.i64 {s:Sta} {ns:Nat→Nat} (S:SI s ns):s.i64:=by
 refine ⟨S.cv.i6,fun t ht=>?_⟩
 obtain ⟨i,hi,rfl⟩:=mem_get ht
 exact (S.tv i hi).1.i64
theorem MI.room {m:Mac} (M:MI m):m.s.room:=M.si.room
theorem MI.i64 {m:Mac} (M:MI m):m.s.i64:=M.si.i64
theorem MI.pn {m:Mac} (M:MI m):m.progs.length≤4∧m.s.ths.length=m.progs.length:=by
 have hb:=Xm M.si.cv.cf
 have:=M.pl;have:=M.si.cv.lt
 constructor <;> omega
theorem Xnb {l:List Op3} (h:Vz l=true):l.length≤20:=by
 unfold Vz at h
 simp only [Bool.and_eq_true,decide_eq_true_eq] at h
 exact h.2
theorem Xwb {l:List Op3} (h:Vz l=true):∀ o∈l,Vx o=true:=by
 unfold Vz at h
 simp only [Bool.and_eq_true,List.all_eq_true] at h
 exact h.1
end
set_option maxHeartbeats 4000000 in
theorem Xnc {n:Nat} {s:Sta} {p:Nat} (hs:staB s=true) (hr:s.room) (hi:s.i64) (hp:p<s.ths.length) (hz:¬(s.th p).pc=0) (h6:I64 (s.th p).seen) (h31:(s.th p).pc=31→0≤(s.th p).seen∧(s.th p).seen<s.c.cap):callP cfg (n+15) 150 [.pv (staA s),.int .i64 (p:Int)]=some ⟨.tup [],staA (stepV s p)⟩:=by
 obtain ⟨H,N,TT⟩:=Xfy.1 ⟨hs,hi.1⟩
 have hm:=X0d (TT _ (Xi hp)).pcs
 simp only [pcL,List.mem_cons,List.not_mem_nil,or_false] at hm
 rcases hm with h | h | h | h | h | h | h | h | h | h | h | h | h | h | h | h | h | h | h | h | h | h | h | h | h | h | h | h | h | h | h | h | h | h | h | h | h | h | h | h | h | h | h
 ·exact absurd h hz
 ·exact R_1 hs hr hi hp h
 ·exact R_2 hs hr hi hp h
 ·exact R_3 hs hr hi hp h
 ·exact R_4 hs hr hi hp h
 ·exact R_5 hs hr hi hp h
 ·exact R_10 hs hr hi hp h
 ·exact R_11 hs hr hi hp h
 ·exact R_12 hs hr hi hp h
 ·exact R_13 hs hr hi hp h
 ·exact R_14 hs hr hi hp h
 ·exact R_15 hs hr hi hp h
 ·exact R_16 hs hr hi hp h
 ·exact R_17 hs hr hi hp h
 ·exact R_18 hs hr hi hp h
 ·exact R_19 hs hr hi hp h
 ·exact R_20 hs hr hi hp h
 ·exact R_21 hs hr hi hp h
 ·exact R_30 hs hr hi hp h
 ·exact R_31 hs hr hi hp h (h31 h)
 ·exact R_32 hs hr hi hp h
 ·exact R_33 hs hr hi hp h
 ·exact R_34 hs hr hi hp h
 ·exact R_35 hs hr hi hp h
 ·exact R_36 hs hr hi hp h
 ·exact R_37 hs hr hi hp h
 ·exact R_38 hs hr hi hp h
 ·exact R_39 hs hr hi hp h
 ·exact R_40 hs hr hi hp h
 ·exact R_41 hs hr hi hp h
 ·exact R_42 hs hr hi hp h
 ·exact R_43 hs hr hi hp h
 ·exact R_44 hs hr hi hp h
 ·exact R_45 hs hr hi hp h
 ·exact R_46 hs hr hi hp h
 ·exact R_47 hs hr hi hp h
 ·exact R_50 hs hr hi hp h
 ·exact R_60 hs hr hi hp h
 ·exact R_61 hs hr hi hp h h6
 ·exact R_62 hs hr hi hp h
 ·exact R_63 hs hr hi hp h
 ·exact R_70 hs hr hi hp h
 ·exact R_80 hs hr hi hp h
theorem Xpj {n:Nat} {m:Mac} {p:Nat} {s2:Sta} (M:MI m) (hp:p<m.s.ths.length) (hz:¬(m.s.th p).pc=0) (hs2:s2=stepV m.s p):callP cfg (n+15) 150 [.pv (staA m.s),.int .i64 (p:Int)]=some ⟨.tup [],staA s2⟩:=by
 rw [hs2]
 exact Xnc M.sta M.room M.i64 hp hz (M.si.tv p hp).2.s6 (fun h=>(M.si.tv p hp).2.w1 h)
end Go.Proofs.YtbploohjimpcaaaGreat.A
