/- What the program's functions answer (Gh): no condition. -/
import Derived.Test.YtbploohjimpcaaaGreatGa
set_option linter.unusedVariables false
set_option linter.unusedSimpArgs false
namespace Go.Proofs.YtbploohjimpcaaaGreat.A
open Go Go.Abs
set_option maxRecDepth 100000
theorem leafRows_map {α:Type} {f:α→List AV} {xs:List α} (h:∀ x,leafy (f x)=true):leafRows (xs.map f)=true:=by
 unfold leafRows
 rw [List.all_map]
 exact List.all_eq_true.2 fun x _=>h x
theorem take_snoc {α:Type} [Inhabited α] {f:α→List AV} {xs:List α} {k:Nat} (h:k<xs.length):(xs.take k).map f++[f (xs.getD k default)]=(xs.take (k+1)).map f:=by
 have hv:xs.getD k default=xs[k]:=by simp [List.getD_eq_getElem?_getD,h]
 rw [List.take_succ_eq_append_getElem h,hv,List.map_append];rfl
theorem F_slices_Clone_int_int {n:Nat} {xs:List Int} (hx:xs.length*8≤140737488355328):callP cfg (n+1) 153 [intsA xs]=some ⟨intsA xs,[]⟩:=by
 rw [callP_succ]
 have e2:leafRows (xs.map iA)=true:=leafRows_map fun x=>rfl
 have e3:decide ((([]:List (List AV)).length+(xs.map iA).length)*8≤roomB)=true:=decide_eq_true (by simp only [List.length_nil,Nat.zero_add,List.length_map];exact hx)
 by_cases h0:xs=[]
 ·subst h0
  repeat' ((conv=>lhs;whnf);first | (with_reducible refine evOps_cons.trans ?_) | (with_reducible refine evOps_nil.trans ?_) | (with_reducible refine ev_seq.trans ?_) | (with_reducible refine ev_region.trans ?_) | (with_reducible refine ev_cond.trans ?_) | (with_reducible refine ev_block.trans ?_) | (with_reducible refine ev_loop.trans ?_) | (with_reducible refine ev_exit.trans ?_) | (with_reducible refine ev_ret.trans ?_) | (with_reducible refine ev_skip.trans ?_) | (with_reducible refine ev_draw.trans ?_) | (with_reducible refine evList_cons.trans ?_) | (with_reducible refine evList_nil.trans ?_) | (with_reducible refine (br_true _ _).trans ?_) | (with_reducible refine (br_false _ _).trans ?_) | (with_reducible refine (br_pos (by assumption)).trans ?_) | (with_reducible refine (br_neg (by assumption)).trans ?_) | (with_reducible refine (br_nt (by assumption)).trans ?_) | (with_reducible refine (br_nf (by assumption)).trans ?_) | (with_reducible refine (navR_nil _ _ _).trans ?_) | (with_reducible refine (modR_nil _ _ _).trans ?_) | (refine both_of ?_ ?_) | (with_reducible refine (br_pos (by with_unfolding_all rfl)).trans ?_) | fail)
  all_goals (conv=>lhs;whnf)
  all_goals rfl
 ·have e1:decide ((xs.map iA).length=0)=false:=decide_eq_false (by simpa using h0)
  have x1:=fun {x y:R}=>br_pos (x:=x) (y:=y) e3
  refine go ?_
  clear x1
  try with_reducible rfl
  rfl
theorem F_slices_Clone_impl_Entry_impl_Entry {n:Nat} {xs:List Ent} (hx:xs.length*32≤140737488355328):callP cfg (n+1) 303 [entsA xs]=some ⟨entsA xs,[]⟩:=by
 rw [callP_succ]
 have e2:leafRows (xs.map entA)=true:=leafRows_map fun x=>rfl
 have e3:decide ((([]:List (List AV)).length+(xs.map entA).length)*32≤roomB)=true:=decide_eq_true (by simp only [List.length_nil,Nat.zero_add,List.length_map];exact hx)
 by_cases h0:xs=[]
 ·subst h0
  repeat' ((conv=>lhs;whnf);first | (with_reducible refine evOps_cons.trans ?_) | (with_reducible refine evOps_nil.trans ?_) | (with_reducible refine ev_seq.trans ?_) | (with_reducible refine ev_region.trans ?_) | (with_reducible refine ev_cond.trans ?_) | (with_reducible refine ev_block.trans ?_) | (with_reducible refine ev_loop.trans ?_) | (with_reducible refine ev_exit.trans ?_) | (with_reducible refine ev_ret.trans ?_) | (with_reducible refine ev_skip.trans ?_) | (with_reducible refine ev_draw.trans ?_) | (with_reducible refine evList_cons.trans ?_) | (with_reducible refine evList_nil.trans ?_) | (with_reducible refine (br_true _ _).trans ?_) | (with_reducible refine (br_false _ _).trans ?_) | (with_reducible refine (br_pos (by assumption)).trans ?_) | (with_reducible refine (br_neg (by assumption)).trans ?_) | (with_reducible refine (br_nt (by assumption)).trans ?_) | (with_reducible refine (br_nf (by assumption)).trans ?_) | (with_reducible refine (navR_nil _ _ _).trans ?_) | (with_reducible refine (modR_nil _ _ _).trans ?_) | (refine both_of ?_ ?_) | (with_reducible refine (br_pos (by with_unfolding_all rfl)).trans ?_) | fail)
  all_goals (conv=>lhs;whnf)
  all_goals rfl
 ·have e1:decide ((xs.map entA).length=0)=false:=decide_eq_false (by simpa using h0)
  have x1:=fun {x y:R}=>br_pos (x:=x) (y:=y) e3
  refine go ?_
  clear x1
  try with_reducible rfl
  rfl
abbrev staRow (s:Sta) (l:List (List AV)):List AV:=[.int .i64 s.c.th,.int .i64 s.c.keys,.int .i64 s.c.cap,.int .i64 s.c.b,.int .i64 s.c.p,.int .i64 s.c.cm,intsA s.cells,intsA s.gens,.lst 19 l,.int .i64 s.steps,.int .i64 s.changes,.int .i64 s.retries,.int .i64 s.faults]
set_option maxHeartbeats 4000000 in
theorem F_impl_copyThread {n:Nat} {t:Th} (ht:t.room):callP cfg (n+2) 243 [.agg (thA t)]=some ⟨.agg (thA t),[]⟩:=by
 rw [callP_succ]
 obtain ⟨h1,h2,h3,h4,h5⟩:=ht
 have g1:t.found.length*8≤140737488355328:=by omega
 have g2:t.free.length*8≤140737488355328:=by omega
 have g3:t.buf.length*32≤140737488355328:=by omega
 have g4:t.work.length*32≤140737488355328:=by omega
 have g5:t.limbo.length*8≤140737488355328:=by omega
 have fq1:=fun {n:Nat}=>F_slices_Clone_int_int (n:=n) g1
 have fq2:=fun {n:Nat}=>F_slices_Clone_int_int (n:=n) g2
 have fq3:=fun {n:Nat}=>F_slices_Clone_int_int (n:=n) g5
 have fq4:=fun {n:Nat}=>F_slices_Clone_impl_Entry_impl_Entry (n:=n) g3
 have fq5:=fun {n:Nat}=>F_slices_Clone_impl_Entry_impl_Entry (n:=n) g4
 refine goD ?_
 clear fq1 fq2 fq3 fq4 fq5
 try with_reducible rfl
theorem F_spec_l7Copy {n:Nat} {t:Th} (ht:t.room):callP cfg (n+1) 268 [.agg (thA t)]=some ⟨.agg (thA t),[]⟩:=by
 rw [callP_succ]
 obtain ⟨h1,h2,h3,h4,h5⟩:=ht
 have g1:t.found.length*8≤140737488355328:=by omega
 have g2:t.free.length*8≤140737488355328:=by omega
 have g3:t.buf.length*32≤140737488355328:=by omega
 have g4:t.work.length*32≤140737488355328:=by omega
 have g5:t.limbo.length*8≤140737488355328:=by omega
 have l0:leafRows (t.found.map iA)=true:=leafRows_map fun x=>rfl
 have m0:decide ((([]:List (List AV)).length+(t.found.map iA).length)*8≤roomB)=true:=decide_eq_true (by simp only [List.length_nil,Nat.zero_add,List.length_map];exact g1)
 have l1:leafRows (t.free.map iA)=true:=leafRows_map fun x=>rfl
 have m1:decide ((([]:List (List AV)).length+(t.free.map iA).length)*8≤roomB)=true:=decide_eq_true (by simp only [List.length_nil,Nat.zero_add,List.length_map];exact g2)
 have l2:leafRows (t.buf.map entA)=true:=leafRows_map fun x=>rfl
 have m2:decide ((([]:List (List AV)).length+(t.buf.map entA).length)*32≤roomB)=true:=decide_eq_true (by simp only [List.length_nil,Nat.zero_add,List.length_map];exact g3)
 have l3:leafRows (t.work.map entA)=true:=leafRows_map fun x=>rfl
 have m3:decide ((([]:List (List AV)).length+(t.work.map entA).length)*32≤roomB)=true:=decide_eq_true (by simp only [List.length_nil,Nat.zero_add,List.length_map];exact g4)
 have l4:leafRows (t.limbo.map iA)=true:=leafRows_map fun x=>rfl
 have m4:decide ((([]:List (List AV)).length+(t.limbo.map iA).length)*8≤roomB)=true:=decide_eq_true (by simp only [List.length_nil,Nat.zero_add,List.length_map];exact g5)
 have x1:=fun {x y:R}=>br_pos (x:=x) (y:=y) m0
 have x2:=fun {x y:R}=>br_pos (x:=x) (y:=y) m1
 have x3:=fun {x y:R}=>br_pos (x:=x) (y:=y) m2
 have x4:=fun {x y:R}=>br_pos (x:=x) (y:=y) m3
 have x5:=fun {x y:R}=>br_pos (x:=x) (y:=y) m4
 refine go ?_
 clear x1 x2 x3 x4 x5
 try with_reducible rfl
 rfl
set_option maxHeartbeats 4000000 in
theorem F_impl_copyState {n:Nat} {s:Sta} (hs:s.room):callP cfg (n+3) 164 [.agg (staA s)]=some ⟨.agg (staA s),[]⟩:=by
 rw [callP_succ]
 obtain ⟨h1,h2,h3,h4⟩:=hs
 have g1:s.cells.length*8≤140737488355328:=by omega
 have g2:s.gens.length*8≤140737488355328:=by omega
 have fq1:=fun {n:Nat}=>F_slices_Clone_int_int (n:=n) g1
 have fq2:=fun {n:Nat}=>F_slices_Clone_int_int (n:=n) g2
 refine goD ?_
 clear fq1 fq2
 refine (evLoop_run (fun e k=>e.set 19 (.int .i64 (k:Int))) (fun h k=>h.set 3 (some ⟨false,false,true,13,[staRow s ((s.ths.take k).map thA)]⟩)) (fun k=>some ⟨.agg (staA s),[]⟩) s.ths.length (by show _<18446744073709551616;omega) rfl ?_).trans rfl
 intro k f hk IH
 by_cases hlt:k<s.ths.length
 ·have e1:=lt_map (f:=thA) hlt
  have e2:=nonneg k
  have r1:=map_get (f:=thA) hlt
  have hw:=wrapS (k:=k) (by omega)
  have hm:=h4 _ (getD_mem hlt)
  have e3:decide ((((s.ths.take k).map thA).length+1)*232≤roomB)=true:=decide_eq_true (by
   have:((s.ths.take k).map thA).length=k:=by rw [List.length_map,List.length_take];omega
   rw [this];show _≤140737488355328;omega)
  have fq1:=fun {n:Nat}=>F_impl_copyThread (n:=n) hm
  have x1:=fun {x y:R}=>br_pos (x:=x) (y:=y) e3
  refine goD ?_
  clear fq1 x1
  try with_reducible rfl
  refine IH hlt _ _ (by rw [hw];rfl) (by rw [←take_snoc hlt];rfl)
 ·have e1:=nlt_map (f:=thA) (Nat.le_of_not_lt hlt)
  obtain rfl:k=s.ths.length:=by omega
  rw [List.take_length]
  refine go ?_
  try with_reducible rfl
set_option maxHeartbeats 4000000 in
theorem F_spec_l8Copy {n:Nat} {s:Sta} (hs:s.room):callP cfg (n+2) 178 [.agg (staA s)]=some ⟨.agg (staA s),[]⟩:=by
 rw [callP_succ]
 obtain ⟨h1,h2,h3,h4⟩:=hs
 have g1:s.cells.length*8≤140737488355328:=by omega
 have g2:s.gens.length*8≤140737488355328:=by omega
 have l0:leafRows (s.cells.map iA)=true:=leafRows_map fun x=>rfl
 have m0:decide ((([]:List (List AV)).length+(s.cells.map iA).length)*8≤roomB)=true:=decide_eq_true (by simp only [List.length_nil,Nat.zero_add,List.length_map];exact g1)
 have l1:leafRows (s.gens.map iA)=true:=leafRows_map fun x=>rfl
 have m1:decide ((([]:List (List AV)).length+(s.gens.map iA).length)*8≤roomB)=true:=decide_eq_true (by simp only [List.length_nil,Nat.zero_add,List.length_map];exact g2)
 have x1:=fun {x y:R}=>br_pos (x:=x) (y:=y) m0
 have x2:=fun {x y:R}=>br_pos (x:=x) (y:=y) m1
 refine go ?_
 clear x1 x2
 refine (evLoop_run (fun e k=>e.set 4 (.int .i64 (k:Int))) (fun h k=>h.set 3 (some ⟨false,false,true,13,[staRow s ((s.ths.take k).map thA)]⟩)) (fun k=>some ⟨.agg (staA s),[]⟩) s.ths.length (by show _<18446744073709551616;omega) rfl ?_).trans rfl
 intro k f hk IH
 by_cases hlt:k<s.ths.length
 ·have e1:=lt_map (f:=thA) hlt
  have e2:=nonneg k
  have r1:=map_get (f:=thA) hlt
  have hw:=wrapS (k:=k) (by omega)
  have hm:=h4 _ (getD_mem hlt)
  have e3:decide ((((s.ths.take k).map thA).length+1)*232≤roomB)=true:=decide_eq_true (by
   have:((s.ths.take k).map thA).length=k:=by rw [List.length_map,List.length_take];omega
   rw [this];show _≤140737488355328;omega)
  have fq1:=fun {n:Nat}=>F_spec_l7Copy (n:=n) hm
  have x1:=fun {x y:R}=>br_pos (x:=x) (y:=y) e3
  refine go ?_
  clear fq1 x1
  try with_reducible rfl
  refine IH hlt _ _ (by rw [hw];rfl) (by rw [←take_snoc hlt];rfl)
 ·have e1:=nlt_map (f:=thA) (Nat.le_of_not_lt hlt)
  obtain rfl:k=s.ths.length:=by omega
  rw [List.take_length]
  refine go ?_
  try with_reducible rfl
end Go.Proofs.YtbploohjimpcaaaGreat.A
