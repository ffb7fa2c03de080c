/- What the program's functions answer (Xu): no condition. -/
import Derived.Test.YtbploohjimpcaaaGreatHb
set_option linter.unusedVariables false
set_option linter.unusedSimpArgs false
namespace Go.Proofs.YtbploohjimpcaaaGreat.A
open Go Go.Abs
set_option maxRecDepth 100000
theorem bneS2 (a:Int):(a !=a)=false:=Yb rfl
theorem beqS2 (a:Int):(a==a)=true:=Yk rfl
set_option maxHeartbeats 4000000 in
theorem F_slices_Equal_int_int {n:Nat} {l:List Int} (hl:l.length≤1048576):callP cfg (n+1) 116 [Xl l,Xl l]=some ⟨.bool true,[]⟩:=by
 rw [Xa]
 have b0:(((l.map iA).length:Int) !=((l.map iA).length:Int))=false:=Yb rfl
 refine go ?_
 refine (Xb (fun e k=>e.set 13 (.int .i64 (k:Int))) (fun h _=>h) (fun _=>some ⟨.bool true,[]⟩) l.length (by show _<18446744073709551616;omega) rfl ?_).trans rfl
 intro k f hk IH
 by_cases hlt:k<l.length
 ·have d1:=Xf (f:=iA) hlt
  have d2:=Xg k
  have r1:=Xe (f:=iA) hlt
  have hw:=Xv (k:=k) (by omega)
  have h1:=bneS2 (l.getD k default)
  refine goD ?_
  try with_reducible rfl
  exact IH hlt _ _ (by rw [hw];rfl) rfl
 ·have d1:=Xh (f:=iA) (Nat.le_of_not_lt hlt)
  refine go ?_
  try with_reducible rfl
  all_goals rfl
set_option maxHeartbeats 4000000 in
theorem F_slices_Equal_impl_Op_impl_Op {n:Nat} {l:List Op3} (hl:l.length≤1048576):callP cfg (n+1) 115 [.lst 3 (l.map opA),.lst 3 (l.map opA)]=some ⟨.bool true,[]⟩:=by
 rw [Xa]
 have b0:(((l.map opA).length:Int) !=((l.map opA).length:Int))=false:=Yb rfl
 refine go ?_
 refine (Xb (fun e k=>e.set 13 (.int .i64 (k:Int))) (fun h _=>h) (fun _=>some ⟨.bool true,[]⟩) l.length (by show _<18446744073709551616;omega) rfl ?_).trans rfl
 intro k f hk IH
 by_cases hlt:k<l.length
 ·have d1:=Xf (f:=opA) hlt
  have d2:=Xg k
  have r1:=Xe (f:=opA) hlt
  have hw:=Xv (k:=k) (by omega)
  have h1:(!((l.getD k default).k==(l.getD k default).k&&((l.getD k default).key==(l.getD k default).key&&((l.getD k default).v==(l.getD k default).v&&(true)))))=false:=by simp
  refine goD ?_
  try with_reducible rfl
  exact IH hlt _ _ (by rw [hw];rfl) rfl
 ·have d1:=Xh (f:=opA) (Nat.le_of_not_lt hlt)
  refine go ?_
  try with_reducible rfl
  all_goals rfl
set_option maxHeartbeats 4000000 in
theorem F_slices_Equal_impl_Entry_impl_Entry {n:Nat} {l:List Ent} (hl:l.length≤1048576):callP cfg (n+1) 269 [Yu l,Yu l]=some ⟨.bool true,[]⟩:=by
 rw [Xa]
 have b0:(((l.map entA).length:Int) !=((l.map entA).length:Int))=false:=Yb rfl
 refine go ?_
 refine (Xb (fun e k=>e.set 13 (.int .i64 (k:Int))) (fun h _=>h) (fun _=>some ⟨.bool true,[]⟩) l.length (by show _<18446744073709551616;omega) rfl ?_).trans rfl
 intro k f hk IH
 by_cases hlt:k<l.length
 ·have d1:=Xf (f:=entA) hlt
  have d2:=Xg k
  have r1:=Xe (f:=entA) hlt
  have hw:=Xv (k:=k) (by omega)
  have h1:(!((l.getD k default).h==(l.getD k default).h&&((l.getD k default).key==(l.getD k default).key&&((l.getD k default).lo==(l.getD k default).lo&&((l.getD k default).hi==(l.getD k default).hi&&(true))))))=false:=by simp
  refine goD ?_
  try with_reducible rfl
  exact IH hlt _ _ (by rw [hw];rfl) rfl
 ·have d1:=Xh (f:=entA) (Nat.le_of_not_lt hlt)
  refine go ?_
  try with_reducible rfl
  all_goals rfl
set_option maxHeartbeats 4000000 in
theorem F_slices_Equal_impl_Event_impl_Event {n:Nat} {l:List Ev} (hl:l.length≤1048576):callP cfg (n+1) 117 [evsA l,evsA l]=some ⟨.bool true,[]⟩:=by
 rw [Xa]
 have b0:(((l.map evA).length:Int) !=((l.map evA).length:Int))=false:=Yb rfl
 refine go ?_
 refine (Xb (fun e k=>e.set 13 (.int .i64 (k:Int))) (fun h _=>h) (fun _=>some ⟨.bool true,[]⟩) l.length (by show _<18446744073709551616;omega) rfl ?_).trans rfl
 intro k f hk IH
 by_cases hlt:k<l.length
 ·have d1:=Xf (f:=evA) hlt
  have d2:=Xg k
  have r1:=Xe (f:=evA) hlt
  have hw:=Xv (k:=k) (by omega)
  have h1:(!((l.getD k default).th==(l.getD k default).th&&((l.getD k default).op.k==(l.getD k default).op.k&&((l.getD k default).op.key==(l.getD k default).op.key&&((l.getD k default).op.v==(l.getD k default).op.v&&((l.getD k default).res.c==(l.getD k default).res.c&&((l.getD k default).res.v==(l.getD k default).res.v&&((l.getD k default).st==(l.getD k default).st&&((l.getD k default).en==(l.getD k default).en&&(true))))))))))=false:=by simp
  refine goD ?_
  try with_reducible rfl
  exact IH hlt _ _ (by rw [hw];rfl) rfl
 ·have d1:=Xh (f:=evA) (Nat.le_of_not_lt hlt)
  refine go ?_
  try with_reducible rfl
  all_goals rfl
set_option maxHeartbeats 4000000 in
theorem F_laws_sameInts {n:Nat} {l:List Int} (hl:l.length≤1048576):callP cfg (n+1) 52 [Xl l,Xl l]=some ⟨.bool true,[]⟩:=by
 rw [Xa]
 have b0:(((l.map iA).length:Int) !=((l.map iA).length:Int))=false:=Yb rfl
 refine go ?_
 refine (Xb (fun e k=>e.set 5 (.int .i64 (k:Int))) (fun h _=>h) (fun _=>some ⟨.bool true,[]⟩) l.length (by show _<18446744073709551616;omega) rfl ?_).trans rfl
 intro k f hk IH
 by_cases hlt:k<l.length
 ·have d1:=Xf (f:=iA) hlt
  have d2:=Xg k
  have r1:=Xe (f:=iA) hlt
  have hw:=Xv (k:=k) (by omega)
  have h1:=bneS2 (l.getD k default)
  refine goD ?_
  try with_reducible rfl
  exact IH hlt _ _ (by rw [hw];rfl) rfl
 ·have d1:=Xh (f:=iA) (Nat.le_of_not_lt hlt)
  refine go ?_
  try with_reducible rfl
  all_goals rfl
set_option maxHeartbeats 4000000 in
theorem F_impl_EqualThreads {n:Nat} {t:Th} (ht:t.room):callP cfg (n+2) 181 [.agg (thA t),.agg (thA t)]=some ⟨.bool true,[]⟩:=by
 rw [Xa]
 obtain ⟨h1,h2,h3,h4,h5⟩:=ht
 have fq1:=fun {n:Nat}=>F_slices_Equal_int_int (n:=n) (l:=t.found) h1
 have fq2:=fun {n:Nat}=>F_slices_Equal_int_int (n:=n) (l:=t.free) h2
 have fq3:=fun {n:Nat}=>F_slices_Equal_int_int (n:=n) (l:=t.limbo) h5
 have fq4:=fun {n:Nat}=>F_slices_Equal_impl_Entry_impl_Entry (n:=n) (l:=t.buf) h3
 have fq5:=fun {n:Nat}=>F_slices_Equal_impl_Entry_impl_Entry (n:=n) (l:=t.work) h4
 have y0:=beqS2 t.pc
 have y1:=beqS2 t.snap
 have y2:=beqS2 t.node
 have y3:=beqS2 t.prev
 have y4:=beqS2 t.curr
 have y5:=beqS2 t.next
 have y6:=beqS2 t.seen
 have y7:=beqS2 t.stamp
 have y8:=beqS2 t.pos
 have z1:((t.op.k==t.op.k&&(t.op.key==t.op.key&&(t.op.v==t.op.v&&(true)))))=true:=by simp
 have z2:((t.res.c==t.res.c&&(t.res.v==t.res.v&&(true))))=true:=by simp
 refine go ?_
 try with_reducible rfl
 all_goals first | rfl | exact okB y8
set_option maxHeartbeats 4000000 in
theorem F_slices_EqualFunc_impl_Thread_impl_Thread_impl_Thread_impl_Thread {n:Nat} {l:List Th} (hl:l.length≤1048576) (hl2:∀ t∈l,t.room):callP cfg (n+5) 180 [thsA l,thsA l,.fn 181 []]=some ⟨.bool true,[]⟩:=by
 rw [Xa]
 have b0:(((l.map thA).length:Int) !=((l.map thA).length:Int))=false:=Yb rfl
 refine go ?_
 refine (Xb (fun e k=>e.set 17 (.int .i64 (k:Int))) (fun h _=>h) (fun _=>some ⟨.bool true,[]⟩) l.length (by show _<18446744073709551616;omega) rfl ?_).trans rfl
 intro k f hk IH
 by_cases hlt:k<l.length
 ·have d1:=Xf (f:=thA) hlt
  have d2:=Xg k
  have r1:=Xe (f:=thA) hlt
  have hw:=Xv (k:=k) (by omega)
  have fq1:=fun {n:Nat}=>F_impl_EqualThreads (n:=n) (t:=l.getD k default) (hl2 _ (Xi hlt))
  refine goD ?_
  try with_reducible rfl
  exact IH hlt _ _ (by rw [hw];rfl) rfl
 ·have d1:=Xh (f:=thA) (Nat.le_of_not_lt hlt)
  refine go ?_
  try with_reducible rfl
  all_goals rfl
set_option maxHeartbeats 4000000 in
theorem F_slices_EqualFunc_impl_Op_impl_Op_impl_Op_impl_Op {n:Nat} {l:List (List Op3)} (hl:l.length≤1048576) (hl2:∀ t∈l,t.length≤1048576):callP cfg (n+4) 114 [Yt l,Yt l,.fn 115 []]=some ⟨.bool true,[]⟩:=by
 rw [Xa]
 have b0:(((l.map Xp).length:Int) !=((l.map Xp).length:Int))=false:=Yb rfl
 refine go ?_
 refine (Xb (fun e k=>e.set 17 (.int .i64 (k:Int))) (fun h _=>h) (fun _=>some ⟨.bool true,[]⟩) l.length (by show _<18446744073709551616;omega) rfl ?_).trans rfl
 intro k f hk IH
 by_cases hlt:k<l.length
 ·have d1:=Xf (f:=Xp) hlt
  have d2:=Xg k
  have r1:=Xe (f:=Xp) hlt
  have hw:=Xv (k:=k) (by omega)
  have fq1:=fun {n:Nat}=>F_slices_Equal_impl_Op_impl_Op (n:=n) (l:=l.getD k default) (hl2 _ (Xi hlt))
  refine goD ?_
  try with_reducible rfl
  exact IH hlt _ _ (by rw [hw];rfl) rfl
 ·have d1:=Xh (f:=Xp) (Nat.le_of_not_lt hlt)
  refine go ?_
  try with_reducible rfl
  all_goals rfl
set_option maxHeartbeats 4000000 in
theorem F_impl_EqualStates {n:Nat} {s:Sta} (hs:s.room):callP cfg (n+6) 113 [.agg (staA s),.agg (staA s)]=some ⟨.bool true,[]⟩:=by
 rw [Xa]
 obtain ⟨h1,h2,h3,h4⟩:=hs
 have fq1:=fun {n:Nat}=>F_slices_Equal_int_int (n:=n) (l:=s.cells) h1
 have fq2:=fun {n:Nat}=>F_slices_Equal_int_int (n:=n) (l:=s.gens) h2
 have fq3:=fun {n:Nat}=>F_slices_EqualFunc_impl_Thread_impl_Thread_impl_Thread_impl_Thread (n:=n) (l:=s.ths) h3 h4
 have y0:=beqS2 s.steps
 have y1:=beqS2 s.changes
 have y2:=beqS2 s.retries
 have y3:=beqS2 s.faults
 have z1:((s.c.th==s.c.th&&(s.c.keys==s.c.keys&&(s.c.cap==s.c.cap&&(s.c.b==s.c.b&&(s.c.p==s.c.p&&(s.c.cm==s.c.cm&&(true))))))))=true:=by simp
 refine go ?_
 try with_reducible rfl
 all_goals first | rfl | exact okB y3
set_option maxHeartbeats 4000000 in
theorem F_impl_EqualMachines {n:Nat} {m:Mac} (hm:m.room):callP cfg (n+7) 54 [.agg (macA m),.agg (macA m)]=some ⟨.bool true,[]⟩:=by
 rw [Xa]
 obtain ⟨h1,h2,h3,h4,h5⟩:=hm
 have fq1:=fun {n:Nat}=>F_impl_EqualStates (n:=n) (s:=m.s) h1
 have fq2:=fun {n:Nat}=>F_slices_EqualFunc_impl_Op_impl_Op_impl_Op_impl_Op (n:=n) (l:=m.progs) h2 h3
 have fq3:=fun {n:Nat}=>F_slices_Equal_int_int (n:=n) (l:=m.next) h4
 have fq4:=fun {n:Nat}=>F_slices_Equal_impl_Event_impl_Event (n:=n) (l:=m.evs) h5
 have y1:=beqS2 m.time
 refine go ?_
 try with_reducible rfl
 all_goals first | rfl | exact okB y1
set_option maxHeartbeats 8000000 in
theorem F_spec_Pick {n:Nat} {m:Mac} {p:Nat} {pk:Int} (M:MI m) (ht:m.time<1000000) (hp:p<m.s.ths.length) (h0:0≤pk∧pk≤9000) (hpk:pk % (m.progs.length:Int)=(p:Int)):callP cfg (n+68) 53 [.agg (macA m),.int .i64 pk]=some ⟨.tup [.agg (macA (if canV m p=true then Um m p else m)),.bool (canV m p)],[]⟩:=by
 rw [Xa]
 have hmr:m.room:=M.mroom
 have hpn:=M.pn
 have hnl:=M.nl
 have e4:decide (m.time≥1000000)=false:=decide_eq_false (by omega)
 have hMd:∀ {n:Nat},callP cfg (n+1) 112 [.int .i64 pk,.int .i64 ((m.next.map iA).length:Int)]=some ⟨.int .i64 (p:Int),[]⟩:=fun {n}=>by
  rw [Xn4 (n:=n) h0 (by rw [List.length_map];omega),List.length_map,hnl,hpk]
 have fq11:=@hMd
 have hPk:∀ {n:Nat},callP cfg (n+67) 89 [.pv (macA m),.int .i64 (p:Int)]=some ⟨.bool (canV m p),macA (if canV m p=true then Um m p else m)⟩:=fun {n}=>Xcw (n:=n) M hp (by omega)
 have fq12:=@hPk
 have fq2:=fun {n:Nat}=>U2 (n:=n) M
 have fq1:=fun {n:Nat}=>Xf6 (n:=n) hmr
 refine goD ?_
 try with_reducible rfl
 all_goals rfl
theorem F_impl_NodesBorn {n:Nat} {s:Sta} (hs:staB s=true) (hr:s.room) (hi:s.i64):callP cfg (n+14) 51 [.agg (staA s)]=some ⟨.int .i64 (cl s 1),[]⟩:=by
 rw [Xa]
 obtain ⟨hc,m1,m2,m3,_⟩:=Zx hs
 have hb:=Xm hc
 have hcc:=Xig hc
 have c1:(s.cells.map iA)[(1:Int).toNat]?=some (iA (cl s 1)):=V6 (by omega)
 have r1:=c1
 have e1:decide ((1:Int)<((s.cells.map iA).length:Int))=true:=decide_eq_true (by rw [List.length_map];omega)
 have e2:decide ((0:Int)≤1)=true:=rfl
 have hST:=fun {n:Nat}=>V7 (n:=n) (s:=s) hr hi
 rw [hs] at hST
 have fq12:=@hST
 have fq2:=@Yc
 refine goD ?_
 try with_reducible rfl
 all_goals rfl
end Go.Proofs.YtbploohjimpcaaaGreat.A
