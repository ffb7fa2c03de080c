/- What the program's functions answer (Kp): no condition. -/
import Derived.Test.YtbploohjimpcaaaGreatGl
set_option linter.unusedVariables false
set_option linter.unusedSimpArgs false
namespace Go.Proofs.YtbploohjimpcaaaGreat.A
open Go Go.Abs
set_option maxRecDepth 100000
set_option maxHeartbeats 16000000
theorem R_63 {n:Nat} {s:Sta} {p:Nat} (hs:staB s=true) (hr:s.room) (hi:s.i64) (hp:p<s.ths.length) (h:(s.th p).pc=63):RK (n+15) s p:=by
 unfold RK;rw [Xa]
 obtain ⟨H,_,_,T6,_,hcf,_,_,_,_,_,_,_,_,_,r1,hL,_,_,w0,w1,w2,w3,hpi,hcl,_,_,_,_,_,_,x8⟩:=pre hs hr hi hp h (by decide)
 rw [stv,st63 h]
 have st1:=r1
 unfold sk63
 have hj:(0:Int)≤1∧(1:Int)≤1:=by omega
 by_cases hch:cl s (hazB s.c (p:Int) 1)=0
 ·by_cases hl1:((s.th p).limbo.length:Int)≥2*s.c.th+s.c.b
  ·have sa:=Xj H hpi hj
   rw [Xs (Xj H hpi hj) hch,Qr (c:=s.c) (t:=s.th p) (Or.inl hl1)]
   exact LK
  ·by_cases hl2:(s.th p).op.k=5
   ·by_cases hl3:(s.th p).limbo.length=0
    ·have sa:=Xj H hpi hj
     rw [Xs (Xj H hpi hj) hch,Xbt (c:=s.c) (t:=s.th p) (fun h=>h.elim hl1 (fun h=>h.2 hl3))]
     exact LK
    ·have sa:=Xj H hpi hj
     rw [Xs (Xj H hpi hj) hch,Qr (c:=s.c) (t:=s.th p) (Or.inr ⟨hl2,hl3⟩)]
     exact LK
   ·have sa:=Xj H hpi hj
    rw [Xs (Xj H hpi hj) hch,Xbt (c:=s.c) (t:=s.th p) (fun h=>h.elim hl1 (fun h=>hl2 h.1))]
    exact LK
 ·by_cases hl1:((s.th p).limbo.length:Int)≥2*s.c.th+s.c.b
  ·have sa:=Xj H hpi hj
   rw [Xo (Xj H hpi hj) hch,Qr (c:=s.c) (t:=s.th p) (Or.inl hl1)]
   exact LK
  ·by_cases hl2:(s.th p).op.k=5
   ·by_cases hl3:(s.th p).limbo.length=0
    ·have sa:=Xj H hpi hj
     rw [Xo (Xj H hpi hj) hch,Xbt (c:=s.c) (t:=s.th p) (fun h=>h.elim hl1 (fun h=>h.2 hl3))]
     exact LK
    ·have sa:=Xj H hpi hj
     rw [Xo (Xj H hpi hj) hch,Qr (c:=s.c) (t:=s.th p) (Or.inr ⟨hl2,hl3⟩)]
     exact LK
   ·have sa:=Xj H hpi hj
    rw [Xo (Xj H hpi hj) hch,Xbt (c:=s.c) (t:=s.th p) (fun h=>h.elim hl1 (fun h=>hl2 h.1))]
    exact LK
theorem X6x {n:Nat} {s:Sta} {p:Nat} (hs:staB s=true) (hr:s.room) (hi:s.i64) (hp:p<s.ths.length) (h:(s.th p).pc=70) (h1:(s.th p).pos+1<2*s.c.th) (h0:(cl s (hazB s.c ((s.th p).pos / 2) ((s.th p).pos % 2)))=0):RK (n+15) s p:=by
 unfold RK;rw [Xa]
 obtain ⟨H,_,T,T6,_,hcf,_,_,_,_,_,_,_,_,_,r1,hL,_,_,w0,w1,w2,w3,_,hcl,_,l1,l2,l3,_,_,x8⟩:=pre hs hr hi hp h (by decide)
 rw [stv,st70 h]
 have st1:=r1
 have h7:=T.p7 h
 have y1:(s.th p).pos.tdiv 2=(s.th p).pos / 2:=Int.tdiv_eq_ediv_of_nonneg h7.1
 have y2:(s.th p).pos.tmod 2=(s.th p).pos % 2:=Int.tmod_eq_emod_of_nonneg h7.1
 have y3:IntKind.i64.wrap ((s.th p).pos.tdiv 2)=(s.th p).pos / 2:=by rw [y1];exact Xc (by omega) (by omega)
 have h5:0≤IntKind.i64.wrap ((s.th p).pos.tdiv 2)∧IntKind.i64.wrap ((s.th p).pos.tdiv 2)<s.c.th:=by rw [y3];omega
 have h6:0≤(s.th p).pos.tmod 2∧(s.th p).pos.tmod 2≤1:=by rw [y2];omega
 have sa:=Xj H h5 h6
 have hE:(hazB s.c (IntKind.i64.wrap ((s.th p).pos.tdiv 2)) ((s.th p).pos.tmod 2))=(hazB s.c ((s.th p).pos / 2) ((s.th p).pos % 2)):=by rw [y3,y2]
 have hLd:ldL s.cells (hazB s.c ((s.th p).pos / 2) ((s.th p).pos % 2))=(cl s (hazB s.c ((s.th p).pos / 2) ((s.th p).pos % 2))):=by rw [←hE];exact Zl sa
 have wp:IntKind.i64.wrap ((s.th p).pos+1)=(s.th p).pos+1:=Xc (by omega) (by omega)
 have w2t:IntKind.i64.wrap (2*s.c.th)=2*s.c.th:=Xc (by omega) (by omega)
 have l1:=T.lo
 have l2:=T.ll
 have l3:=T.lf
 have ha:(s.th p).limbo.length≤1048576:=by omega
 rw [X2t hLd h1 h0]
 have e1:decide (((((s.th p).found.map iA).length+1)*8≤Yf))=true:=decide_eq_true (by rw [List.length_map];show _≤140737488355328;omega)
 have b2:(decide (IntKind.i64.wrap ((s.th p).pos+1)<IntKind.i64.wrap (2*s.c.th)))=true:=by rw [wp,w2t];exact decide_eq_true h1
 have b1:((cl s (hazB s.c (IntKind.i64.wrap ((s.th p).pos.tdiv 2)) ((s.th p).pos.tmod 2))) !=0)=false:=Yb (hE▸h0)
 exact LKr
theorem X6y {n:Nat} {s:Sta} {p:Nat} (hs:staB s=true) (hr:s.room) (hi:s.i64) (hp:p<s.ths.length) (h:(s.th p).pc=70) (h1:(s.th p).pos+1<2*s.c.th) (h0:¬(cl s (hazB s.c ((s.th p).pos / 2) ((s.th p).pos % 2)))=0):RK (n+15) s p:=by
 unfold RK;rw [Xa]
 obtain ⟨H,_,T,T6,_,hcf,_,_,_,_,_,_,_,_,_,r1,hL,_,_,w0,w1,w2,w3,_,hcl,_,l1,l2,l3,_,_,x8⟩:=pre hs hr hi hp h (by decide)
 rw [stv,st70 h]
 have st1:=r1
 have h7:=T.p7 h
 have y1:(s.th p).pos.tdiv 2=(s.th p).pos / 2:=Int.tdiv_eq_ediv_of_nonneg h7.1
 have y2:(s.th p).pos.tmod 2=(s.th p).pos % 2:=Int.tmod_eq_emod_of_nonneg h7.1
 have y3:IntKind.i64.wrap ((s.th p).pos.tdiv 2)=(s.th p).pos / 2:=by rw [y1];exact Xc (by omega) (by omega)
 have h5:0≤IntKind.i64.wrap ((s.th p).pos.tdiv 2)∧IntKind.i64.wrap ((s.th p).pos.tdiv 2)<s.c.th:=by rw [y3];omega
 have h6:0≤(s.th p).pos.tmod 2∧(s.th p).pos.tmod 2≤1:=by rw [y2];omega
 have sa:=Xj H h5 h6
 have hE:(hazB s.c (IntKind.i64.wrap ((s.th p).pos.tdiv 2)) ((s.th p).pos.tmod 2))=(hazB s.c ((s.th p).pos / 2) ((s.th p).pos % 2)):=by rw [y3,y2]
 have hLd:ldL s.cells (hazB s.c ((s.th p).pos / 2) ((s.th p).pos % 2))=(cl s (hazB s.c ((s.th p).pos / 2) ((s.th p).pos % 2))):=by rw [←hE];exact Zl sa
 have wp:IntKind.i64.wrap ((s.th p).pos+1)=(s.th p).pos+1:=Xc (by omega) (by omega)
 have w2t:IntKind.i64.wrap (2*s.c.th)=2*s.c.th:=Xc (by omega) (by omega)
 have l1:=T.lo
 have l2:=T.ll
 have l3:=T.lf
 have ha:(s.th p).limbo.length≤1048576:=by omega
 rw [X2u hLd h1 h0]
 have e1:decide (((((s.th p).found.map iA).length+1)*8≤Yf))=true:=decide_eq_true (by rw [List.length_map];show _≤140737488355328;omega)
 have b2:(decide (IntKind.i64.wrap ((s.th p).pos+1)<IntKind.i64.wrap (2*s.c.th)))=true:=by rw [wp,w2t];exact decide_eq_true h1
 have b1:((cl s (hazB s.c (IntKind.i64.wrap ((s.th p).pos.tdiv 2)) ((s.th p).pos.tmod 2))) !=0)=true:=Zn (hE▸h0)
 exact LKr
theorem X5l {n:Nat} {s:Sta} {p:Nat} (hs:staB s=true) (hr:s.room) (hi:s.i64) (hp:p<s.ths.length) (h:(s.th p).pc=70) (h1:¬(s.th p).pos+1<2*s.c.th) (h0:(cl s (hazB s.c ((s.th p).pos / 2) ((s.th p).pos % 2)))=0):RK (n+15) s p:=by
 unfold RK;rw [Xa]
 obtain ⟨H,_,T,T6,_,hcf,hlt,_,_,_,_,_,_,_,_,r1,hL,_,_,w0,w1,w2,w3,_,hcl,_,l1,l2,l3,_,_,x8⟩:=pre hs hr hi hp h (by decide)
 rw [stv,st70 h]
 have st1:=r1
 have h7:=T.p7 h
 have y1:(s.th p).pos.tdiv 2=(s.th p).pos / 2:=Int.tdiv_eq_ediv_of_nonneg h7.1
 have y2:(s.th p).pos.tmod 2=(s.th p).pos % 2:=Int.tmod_eq_emod_of_nonneg h7.1
 have y3:IntKind.i64.wrap ((s.th p).pos.tdiv 2)=(s.th p).pos / 2:=by rw [y1];exact Xc (by omega) (by omega)
 have h5:0≤IntKind.i64.wrap ((s.th p).pos.tdiv 2)∧IntKind.i64.wrap ((s.th p).pos.tdiv 2)<s.c.th:=by rw [y3];omega
 have h6:0≤(s.th p).pos.tmod 2∧(s.th p).pos.tmod 2≤1:=by rw [y2];omega
 have sa:=Xj H h5 h6
 have hE:(hazB s.c (IntKind.i64.wrap ((s.th p).pos.tdiv 2)) ((s.th p).pos.tmod 2))=(hazB s.c ((s.th p).pos / 2) ((s.th p).pos % 2)):=by rw [y3,y2]
 have hLd:ldL s.cells (hazB s.c ((s.th p).pos / 2) ((s.th p).pos % 2))=(cl s (hazB s.c ((s.th p).pos / 2) ((s.th p).pos % 2))):=by rw [←hE];exact Zl sa
 have wp:IntKind.i64.wrap ((s.th p).pos+1)=(s.th p).pos+1:=Xc (by omega) (by omega)
 have w2t:IntKind.i64.wrap (2*s.c.th)=2*s.c.th:=Xc (by omega) (by omega)
 have l1:=T.lo
 have l2:=T.ll
 have l3:=T.lf
 have e1:decide (((((s.th p).found.map iA).length+1)*8≤Yf))=true:=decide_eq_true (by rw [List.length_map];show _≤140737488355328;omega)
 have ha:(s.th p).limbo.length≤1048576:=by omega
 have sl:decide ((hazB s.c (IntKind.i64.wrap ((s.th p).pos.tdiv 2)) ((s.th p).pos.tmod 2))<0)=false:=decide_eq_false (by omega)
 have sg:decide ((hazB s.c (IntKind.i64.wrap ((s.th p).pos.tdiv 2)) ((s.th p).pos.tmod 2))≥((s.cells.map iA).length:Int))=false:=decide_eq_false (by rw [List.length_map];omega)
 have sc:decide (0≤(hazB s.c (IntKind.i64.wrap ((s.th p).pos.tdiv 2)) ((s.th p).pos.tmod 2)))=true:=decide_eq_true sa.1
 have sd:=Xal sa
 have r2:=V6 sa
 rw [X2v hLd h1 h0]
 have b2:(decide (IntKind.i64.wrap ((s.th p).pos+1)<IntKind.i64.wrap (2*s.c.th)))=false:=by rw [wp,w2t];exact decide_eq_false h1
 have b1:((cl s (hazB s.c (IntKind.i64.wrap ((s.th p).pos.tdiv 2)) ((s.th p).pos.tmod 2))) !=0)=false:=Yb (hE▸h0)
 have hf:(s.th p).found.length≤1048576:=by omega
 have hDl:((s.th p).limbo.filter fun h=>!(s.th p).found.contains h).length≤100:=Nat.le_trans (List.length_filter_le _ _) l2
 have st1:=r1
 have x8:=fun {row:List AV} {x y:R}=>Xn (x:=x) (y:=y) (Uv (j:=p) (x:=row) hL)
 have fq1:=@Xat
 have fq2:=@Xbl
 have fq3:=@Xbm
 have fq4:=@Xau
 have fq5:=@Xav
 have fq6:=fun {n:Nat}=>Xac (n:=n) hcf h5 h6
 have fq7:=fun {n:Nat}=>Xaf (n:=n) ha hf
 refine goD ?_
 clear fq1 fq2 fq3 fq4 fq5 fq6 fq7
 refine (Xb (fun e k=>e.set 8 (.int .i64 (k:Int))) (fun h k=>h.set 1 (some ⟨false,false,true,13,[[.int .i64 s.c.th,.int .i64 s.c.keys,.int .i64 s.c.cap,.int .i64 s.c.b,.int .i64 s.c.p,.int .i64 s.c.cm,.lst 1 (s.cells.map iA),.lst 1 ((((((s.th p).limbo.filter fun h=>!(s.th p).found.contains h).take k).foldl Xz (s.gens,(s.th p).free)).1).map iA),.lst 19 ((s.ths.map thA).set p [.int .i64 70,.int .i64 (s.th p).op.k,.int .i64 (s.th p).op.key,.int .i64 (s.th p).op.v,.int .i64 (s.th p).res.c,.int .i64 (s.th p).res.v,.int .i64 (s.th p).snap,.int .i64 (s.th p).node,.int .i64 (s.th p).prev,.int .i64 (s.th p).curr,.int .i64 (s.th p).next,.int .i64 (s.th p).seen,.int .i64 (s.th p).stamp,.int .i64 (IntKind.i64.wrap ((s.th p).pos+1)),Xl (s.th p).found,.lst 1 ((((((s.th p).limbo.filter fun h=>!(s.th p).found.contains h).take k).foldl Xz (s.gens,(s.th p).free)).2).map iA),Yu (s.th p).buf,Yu (s.th p).work,.lst 1 (((s.th p).limbo.filter fun h=>(s.th p).found.contains h).map iA)]),.int .i64 (IntKind.i64.wrap (s.steps+1)),.int .i64 s.changes,.int .i64 s.retries,.int .i64 s.faults]]⟩)) (fun _=>_) ((s.th p).limbo.filter fun h=>!(s.th p).found.contains h).length (by show _<18446744073709551616;omega) rfl ?_).trans rfl
 intro k f hk IH
 by_cases hlt:k<((s.th p).limbo.filter fun h=>!(s.th p).found.contains h).length
 ·obtain ⟨h0k,hk0⟩:∃ y,y=((s.th p).limbo.filter fun h=>!(s.th p).found.contains h).getD k default:=⟨_,rfl⟩
  have hmem:h0k∈(s.th p).limbo:=by rw [hk0];exact (List.mem_filter.1 (Xi hlt)).1
  have h06:I64 h0k:=T6.2.2.2.2.2.2 _ hmem
  have hix:=Y3 (T.lm _ hmem)
  have e1':=Xf (f:=iA) hlt
  have e2':=Xg k
  have r2:(((s.th p).limbo.filter fun h=>!(s.th p).found.contains h).map iA)[k]?=some (iA h0k):=by rw [hk0];exact Xe hlt
  have hw:=Xv (k:=k) (by omega)
  have hGl:(((((s.th p).limbo.filter fun h=>!(s.th p).found.contains h).take k).foldl Xz (s.gens,(s.th p).free)).1).length=s.gens.length:=Xqu
  have hGi:(idxB h0k).toNat<(((((s.th p).limbo.filter fun h=>!(s.th p).found.contains h).take k).foldl Xz (s.gens,(s.th p).free)).1).length:=by omega
  have r3:((((((s.th p).limbo.filter fun h=>!(s.th p).found.contains h).take k).foldl Xz (s.gens,(s.th p).free)).1).map iA)[(idxB h0k).toNat]?=some (iA ((((((s.th p).limbo.filter fun h=>!(s.th p).found.contains h).take k).foldl Xz (s.gens,(s.th p).free)).1).getD (idxB h0k).toNat default)):=Xe hGi
  have st2:=r3
  have i1:decide (0≤idxB h0k)=true:=decide_eq_true hix.1
  have i2:decide (idxB h0k<(((((((s.th p).limbo.filter fun h=>!(s.th p).found.contains h).take k).foldl Xz (s.gens,(s.th p).free)).1).map iA).length:Int))=true:=decide_eq_true (by rw [List.length_map];omega)
  have hx0:0≤((((((s.th p).limbo.filter fun h=>!(s.th p).found.contains h).take k).foldl Xz (s.gens,(s.th p).free)).1).getD (idxB h0k).toNat default):=Xwa (fun i=>Xqv H) _
  have hsn:(((s.th p).limbo.filter fun h=>!(s.th p).found.contains h).take (k+1)).foldl Xz (s.gens,(s.th p).free)=Xz ((((s.th p).limbo.filter fun h=>!(s.th p).found.contains h).take k).foldl Xz (s.gens,(s.th p).free)) h0k:=by rw [hk0];exact Xlo hlt
  by_cases hx9:((((((s.th p).limbo.filter fun h=>!(s.th p).found.contains h).take k).foldl Xz (s.gens,(s.th p).free)).1).getD (idxB h0k).toNat default)<9998
  ·by_cases hx8:(((((s.th p).limbo.filter fun h=>!(s.th p).found.contains h).take k).foldl Xz (s.gens,(s.th p).free)).2).length<100
   ·have hsn2:=hsn.trans (if_pos ⟨hx9,hx8⟩)
    have j1:decide (((((((s.th p).limbo.filter fun h=>!(s.th p).found.contains h).take k).foldl Xz (s.gens,(s.th p).free)).1).getD (idxB h0k).toNat default)<9998)=true:=decide_eq_true hx9
    have j2:decide ((((((((s.th p).limbo.filter fun h=>!(s.th p).found.contains h).take k).foldl Xz (s.gens,(s.th p).free)).2).map iA).length:Int)<100)=true:=decide_eq_true (by rw [List.length_map];omega)
    have j3:decide ((((((((s.th p).limbo.filter fun h=>!(s.th p).found.contains h).take k).foldl Xz (s.gens,(s.th p).free)).2).map iA).length+1)*8≤Yf)=true:=decide_eq_true (by rw [List.length_map];show _≤140737488355328;omega)
    have j4:IntKind.i64.wrap (((((((s.th p).limbo.filter fun h=>!(s.th p).found.contains h).take k).foldl Xz (s.gens,(s.th p).free)).1).getD (idxB h0k).toNat default)+1)=((((((s.th p).limbo.filter fun h=>!(s.th p).found.contains h).take k).foldl Xz (s.gens,(s.th p).free)).1).getD (idxB h0k).toNat default)+1:=Xc (by omega) (by omega)
    have fq1:=fun {n:Nat}=>X8 (n:=n) h06
    have x1:=fun {x y:R}=>Xn (x:=x) (y:=y) j3
    refine goD ?_
    clear fq1 x1
    exact IH hlt _ _ (by rw [hw];rfl) (by show _=List.set _ 1 _;rw [hsn2,j4];simp only [Zj,List.map_append,List.map_set,List.map_cons,List.map_nil];rfl)
   ·have hno:¬(((((((s.th p).limbo.filter fun h=>!(s.th p).found.contains h).take k).foldl Xz (s.gens,(s.th p).free)).1).getD (idxB h0k).toNat default)<9998∧(((((s.th p).limbo.filter fun h=>!(s.th p).found.contains h).take k).foldl Xz (s.gens,(s.th p).free)).2).length<100):=fun h=>hx8 h.2
    have j1:decide (((((((s.th p).limbo.filter fun h=>!(s.th p).found.contains h).take k).foldl Xz (s.gens,(s.th p).free)).1).getD (idxB h0k).toNat default)<9998)=true:=decide_eq_true hx9
    have j2:decide ((((((((s.th p).limbo.filter fun h=>!(s.th p).found.contains h).take k).foldl Xz (s.gens,(s.th p).free)).2).map iA).length:Int)<100)=false:=decide_eq_false (by rw [List.length_map];omega)
    have hsn2:=hsn.trans (if_neg hno)
    have fq1:=fun {n:Nat}=>X8 (n:=n) h06
    refine goD ?_
    clear fq1
    exact IH hlt _ _ (by rw [hw];rfl) (by show _=List.set _ 1 _;rw [hsn2];rfl)
  ·have hno:¬(((((((s.th p).limbo.filter fun h=>!(s.th p).found.contains h).take k).foldl Xz (s.gens,(s.th p).free)).1).getD (idxB h0k).toNat default)<9998∧(((((s.th p).limbo.filter fun h=>!(s.th p).found.contains h).take k).foldl Xz (s.gens,(s.th p).free)).2).length<100):=fun h=>hx9 h.1
   have j1:decide (((((((s.th p).limbo.filter fun h=>!(s.th p).found.contains h).take k).foldl Xz (s.gens,(s.th p).free)).1).getD (idxB h0k).toNat default)<9998)=false:=decide_eq_false hx9
   have hsn2:=hsn.trans (if_neg hno)
   have fq1:=fun {n:Nat}=>X8 (n:=n) h06
   refine goD ?_
   clear fq1
   exact IH hlt _ _ (by rw [hw];rfl) (by show _=List.set _ 1 _;rw [hsn2];rfl)
 ·have e1':=Xh (f:=iA) (xs:=((s.th p).limbo.filter fun h=>!(s.th p).found.contains h)) (Nat.le_of_not_lt hlt)
  have hall:((s.th p).limbo.filter fun h=>!(s.th p).found.contains h).take k=((s.th p).limbo.filter fun h=>!(s.th p).found.contains h):=List.take_of_length_le (by omega)
  rw [hall]
  have st1:=r1
  refine goD ?_
  refine okRf ?_
  simp only [staA,thsA,Xl,Yu,setT,endT,clr,List.map_set,Wx,Wy,Xab,decide_eq_true_eq,beq2,ld,w0,w1,w2,w3,wp,h,hE,Zj,List.map_append,List.map_cons,List.map_nil,iA,thA]
  try rfl
theorem X5m {n:Nat} {s:Sta} {p:Nat} (hs:staB s=true) (hr:s.room) (hi:s.i64) (hp:p<s.ths.length) (h:(s.th p).pc=70) (h1:¬(s.th p).pos+1<2*s.c.th) (h0:¬(cl s (hazB s.c ((s.th p).pos / 2) ((s.th p).pos % 2)))=0):RK (n+15) s p:=by
 unfold RK;rw [Xa]
 obtain ⟨H,_,T,T6,_,hcf,hlt,_,_,_,_,_,_,_,_,r1,hL,_,_,w0,w1,w2,w3,_,hcl,_,l1,l2,l3,_,_,x8⟩:=pre hs hr hi hp h (by decide)
 rw [stv,st70 h]
 have st1:=r1
 have h7:=T.p7 h
 have y1:(s.th p).pos.tdiv 2=(s.th p).pos / 2:=Int.tdiv_eq_ediv_of_nonneg h7.1
 have y2:(s.th p).pos.tmod 2=(s.th p).pos % 2:=Int.tmod_eq_emod_of_nonneg h7.1
 have y3:IntKind.i64.wrap ((s.th p).pos.tdiv 2)=(s.th p).pos / 2:=by rw [y1];exact Xc (by omega) (by omega)
 have h5:0≤IntKind.i64.wrap ((s.th p).pos.tdiv 2)∧IntKind.i64.wrap ((s.th p).pos.tdiv 2)<s.c.th:=by rw [y3];omega
 have h6:0≤(s.th p).pos.tmod 2∧(s.th p).pos.tmod 2≤1:=by rw [y2];omega
 have sa:=Xj H h5 h6
 have hE:(hazB s.c (IntKind.i64.wrap ((s.th p).pos.tdiv 2)) ((s.th p).pos.tmod 2))=(hazB s.c ((s.th p).pos / 2) ((s.th p).pos % 2)):=by rw [y3,y2]
 have hLd:ldL s.cells (hazB s.c ((s.th p).pos / 2) ((s.th p).pos % 2))=(cl s (hazB s.c ((s.th p).pos / 2) ((s.th p).pos % 2))):=by rw [←hE];exact Zl sa
 have wp:IntKind.i64.wrap ((s.th p).pos+1)=(s.th p).pos+1:=Xc (by omega) (by omega)
 have w2t:IntKind.i64.wrap (2*s.c.th)=2*s.c.th:=Xc (by omega) (by omega)
 have l1:=T.lo
 have l2:=T.ll
 have l3:=T.lf
 have e1:decide (((((s.th p).found.map iA).length+1)*8≤Yf))=true:=decide_eq_true (by rw [List.length_map];show _≤140737488355328;omega)
 have ha:(s.th p).limbo.length≤1048576:=by omega
 have sl:decide ((hazB s.c (IntKind.i64.wrap ((s.th p).pos.tdiv 2)) ((s.th p).pos.tmod 2))<0)=false:=decide_eq_false (by omega)
 have sg:decide ((hazB s.c (IntKind.i64.wrap ((s.th p).pos.tdiv 2)) ((s.th p).pos.tmod 2))≥((s.cells.map iA).length:Int))=false:=decide_eq_false (by rw [List.length_map];omega)
 have sc:decide (0≤(hazB s.c (IntKind.i64.wrap ((s.th p).pos.tdiv 2)) ((s.th p).pos.tmod 2)))=true:=decide_eq_true sa.1
 have sd:=Xal sa
 have r2:=V6 sa
 rw [X2w hLd h1 h0]
 rw [←hE]
 have b2:(decide (IntKind.i64.wrap ((s.th p).pos+1)<IntKind.i64.wrap (2*s.c.th)))=false:=by rw [wp,w2t];exact decide_eq_false h1
 have b1:((cl s (hazB s.c (IntKind.i64.wrap ((s.th p).pos.tdiv 2)) ((s.th p).pos.tmod 2))) !=0)=true:=Zn (hE▸h0)
 have hf:(s.th p).found.length≤1048575:=by omega
 have hDl:((s.th p).limbo.filter fun h=>!((s.th p).found++[(cl s (hazB s.c (IntKind.i64.wrap ((s.th p).pos.tdiv 2)) ((s.th p).pos.tmod 2)))]).contains h).length≤100:=Nat.le_trans (List.length_filter_le _ _) l2
 have st1:=r1
 have x8:=fun {row:List AV} {x y:R}=>Xn (x:=x) (y:=y) (Uv (j:=p) (x:=row) hL)
 have fq1:=@Xat
 have fq2:=@Xbl
 have fq3:=@Xbm
 have fq4:=@Xau
 have fq5:=@Xav
 have fq6:=fun {n:Nat}=>Xac (n:=n) hcf h5 h6
 have x1:=fun {x y:R}=>Xn (x:=x) (y:=y) e1
 have fq7:=fun {n:Nat} {y:Int} {r:Nat} {pth:Path}=>Xm9 (n:=n) (y:=y) (r:=r) (pth:=pth) ha hf
 refine goD ?_
 clear fq1 fq2 fq3 fq4 fq5 fq6 x1 fq7
 refine (Xb (fun e k=>e.set 8 (.int .i64 (k:Int))) (fun h k=>h.set 1 (some ⟨false,false,true,13,[[.int .i64 s.c.th,.int .i64 s.c.keys,.int .i64 s.c.cap,.int .i64 s.c.b,.int .i64 s.c.p,.int .i64 s.c.cm,.lst 1 (s.cells.map iA),.lst 1 ((((((s.th p).limbo.filter fun h=>!((s.th p).found++[(cl s (hazB s.c (IntKind.i64.wrap ((s.th p).pos.tdiv 2)) ((s.th p).pos.tmod 2)))]).contains h).take k).foldl Xz (s.gens,(s.th p).free)).1).map iA),.lst 19 ((s.ths.map thA).set p [.int .i64 70,.int .i64 (s.th p).op.k,.int .i64 (s.th p).op.key,.int .i64 (s.th p).op.v,.int .i64 (s.th p).res.c,.int .i64 (s.th p).res.v,.int .i64 (s.th p).snap,.int .i64 (s.th p).node,.int .i64 (s.th p).prev,.int .i64 (s.th p).curr,.int .i64 (s.th p).next,.int .i64 (s.th p).seen,.int .i64 (s.th p).stamp,.int .i64 (IntKind.i64.wrap ((s.th p).pos+1)),.lst 1 (Zj (AV.ref 1 [(0,0+8),((p:Int).toNat,0+11)]) ((s.th p).found.map iA)++[[.int .i64 (cl s (hazB s.c (IntKind.i64.wrap ((s.th p).pos.tdiv 2)) ((s.th p).pos.tmod 2)))]]),.lst 1 ((((((s.th p).limbo.filter fun h=>!((s.th p).found++[(cl s (hazB s.c (IntKind.i64.wrap ((s.th p).pos.tdiv 2)) ((s.th p).pos.tmod 2)))]).contains h).take k).foldl Xz (s.gens,(s.th p).free)).2).map iA),Yu (s.th p).buf,Yu (s.th p).work,.lst 1 (((s.th p).limbo.filter fun h=>((s.th p).found++[(cl s (hazB s.c (IntKind.i64.wrap ((s.th p).pos.tdiv 2)) ((s.th p).pos.tmod 2)))]).contains h).map iA)]),.int .i64 (IntKind.i64.wrap (s.steps+1)),.int .i64 s.changes,.int .i64 s.retries,.int .i64 s.faults]]⟩)) (fun _=>_) ((s.th p).limbo.filter fun h=>!((s.th p).found++[(cl s (hazB s.c (IntKind.i64.wrap ((s.th p).pos.tdiv 2)) ((s.th p).pos.tmod 2)))]).contains h).length (by show _<18446744073709551616;omega) rfl ?_).trans rfl
 intro k f hk IH
 by_cases hlt:k<((s.th p).limbo.filter fun h=>!((s.th p).found++[(cl s (hazB s.c (IntKind.i64.wrap ((s.th p).pos.tdiv 2)) ((s.th p).pos.tmod 2)))]).contains h).length
 ·obtain ⟨h0k,hk0⟩:∃ y,y=((s.th p).limbo.filter fun h=>!((s.th p).found++[(cl s (hazB s.c (IntKind.i64.wrap ((s.th p).pos.tdiv 2)) ((s.th p).pos.tmod 2)))]).contains h).getD k default:=⟨_,rfl⟩
  have hmem:h0k∈(s.th p).limbo:=by rw [hk0];exact (List.mem_filter.1 (Xi hlt)).1
  have h06:I64 h0k:=T6.2.2.2.2.2.2 _ hmem
  have hix:=Y3 (T.lm _ hmem)
  have e1':=Xf (f:=iA) hlt
  have e2':=Xg k
  have r2:(((s.th p).limbo.filter fun h=>!((s.th p).found++[(cl s (hazB s.c (IntKind.i64.wrap ((s.th p).pos.tdiv 2)) ((s.th p).pos.tmod 2)))]).contains h).map iA)[k]?=some (iA h0k):=by rw [hk0];exact Xe hlt
  have hw:=Xv (k:=k) (by omega)
  have hGl:(((((s.th p).limbo.filter fun h=>!((s.th p).found++[(cl s (hazB s.c (IntKind.i64.wrap ((s.th p).pos.tdiv 2)) ((s.th p).pos.tmod 2)))]).contains h).take k).foldl Xz (s.gens,(s.th p).free)).1).length=s.gens.length:=Xqu
  have hGi:(idxB h0k).toNat<(((((s.th p).limbo.filter fun h=>!((s.th p).found++[(cl s (hazB s.c (IntKind.i64.wrap ((s.th p).pos.tdiv 2)) ((s.th p).pos.tmod 2)))]).contains h).take k).foldl Xz (s.gens,(s.th p).free)).1).length:=by omega
  have r3:((((((s.th p).limbo.filter fun h=>!((s.th p).found++[(cl s (hazB s.c (IntKind.i64.wrap ((s.th p).pos.tdiv 2)) ((s.th p).pos.tmod 2)))]).contains h).take k).foldl Xz (s.gens,(s.th p).free)).1).map iA)[(idxB h0k).toNat]?=some (iA ((((((s.th p).limbo.filter fun h=>!((s.th p).found++[(cl s (hazB s.c (IntKind.i64.wrap ((s.th p).pos.tdiv 2)) ((s.th p).pos.tmod 2)))]).contains h).take k).foldl Xz (s.gens,(s.th p).free)).1).getD (idxB h0k).toNat default)):=Xe hGi
  have st2:=r3
  have i1:decide (0≤idxB h0k)=true:=decide_eq_true hix.1
  have i2:decide (idxB h0k<(((((((s.th p).limbo.filter fun h=>!((s.th p).found++[(cl s (hazB s.c (IntKind.i64.wrap ((s.th p).pos.tdiv 2)) ((s.th p).pos.tmod 2)))]).contains h).take k).foldl Xz (s.gens,(s.th p).free)).1).map iA).length:Int))=true:=decide_eq_true (by rw [List.length_map];omega)
  have hx0:0≤((((((s.th p).limbo.filter fun h=>!((s.th p).found++[(cl s (hazB s.c (IntKind.i64.wrap ((s.th p).pos.tdiv 2)) ((s.th p).pos.tmod 2)))]).contains h).take k).foldl Xz (s.gens,(s.th p).free)).1).getD (idxB h0k).toNat default):=Xwa (fun i=>Xqv H) _
  have hsn:(((s.th p).limbo.filter fun h=>!((s.th p).found++[(cl s (hazB s.c (IntKind.i64.wrap ((s.th p).pos.tdiv 2)) ((s.th p).pos.tmod 2)))]).contains h).take (k+1)).foldl Xz (s.gens,(s.th p).free)=Xz ((((s.th p).limbo.filter fun h=>!((s.th p).found++[(cl s (hazB s.c (IntKind.i64.wrap ((s.th p).pos.tdiv 2)) ((s.th p).pos.tmod 2)))]).contains h).take k).foldl Xz (s.gens,(s.th p).free)) h0k:=by rw [hk0];exact Xlo hlt
  by_cases hx9:((((((s.th p).limbo.filter fun h=>!((s.th p).found++[(cl s (hazB s.c (IntKind.i64.wrap ((s.th p).pos.tdiv 2)) ((s.th p).pos.tmod 2)))]).contains h).take k).foldl Xz (s.gens,(s.th p).free)).1).getD (idxB h0k).toNat default)<9998
  ·by_cases hx8:(((((s.th p).limbo.filter fun h=>!((s.th p).found++[(cl s (hazB s.c (IntKind.i64.wrap ((s.th p).pos.tdiv 2)) ((s.th p).pos.tmod 2)))]).contains h).take k).foldl Xz (s.gens,(s.th p).free)).2).length<100
   ·have hsn2:=hsn.trans (if_pos ⟨hx9,hx8⟩)
    have j1:decide (((((((s.th p).limbo.filter fun h=>!((s.th p).found++[(cl s (hazB s.c (IntKind.i64.wrap ((s.th p).pos.tdiv 2)) ((s.th p).pos.tmod 2)))]).contains h).take k).foldl Xz (s.gens,(s.th p).free)).1).getD (idxB h0k).toNat default)<9998)=true:=decide_eq_true hx9
    have j2:decide ((((((((s.th p).limbo.filter fun h=>!((s.th p).found++[(cl s (hazB s.c (IntKind.i64.wrap ((s.th p).pos.tdiv 2)) ((s.th p).pos.tmod 2)))]).contains h).take k).foldl Xz (s.gens,(s.th p).free)).2).map iA).length:Int)<100)=true:=decide_eq_true (by rw [List.length_map];omega)
    have j3:decide ((((((((s.th p).limbo.filter fun h=>!((s.th p).found++[(cl s (hazB s.c (IntKind.i64.wrap ((s.th p).pos.tdiv 2)) ((s.th p).pos.tmod 2)))]).contains h).take k).foldl Xz (s.gens,(s.th p).free)).2).map iA).length+1)*8≤Yf)=true:=decide_eq_true (by rw [List.length_map];show _≤140737488355328;omega)
    have j4:IntKind.i64.wrap (((((((s.th p).limbo.filter fun h=>!((s.th p).found++[(cl s (hazB s.c (IntKind.i64.wrap ((s.th p).pos.tdiv 2)) ((s.th p).pos.tmod 2)))]).contains h).take k).foldl Xz (s.gens,(s.th p).free)).1).getD (idxB h0k).toNat default)+1)=((((((s.th p).limbo.filter fun h=>!((s.th p).found++[(cl s (hazB s.c (IntKind.i64.wrap ((s.th p).pos.tdiv 2)) ((s.th p).pos.tmod 2)))]).contains h).take k).foldl Xz (s.gens,(s.th p).free)).1).getD (idxB h0k).toNat default)+1:=Xc (by omega) (by omega)
    have fq1:=fun {n:Nat}=>X8 (n:=n) h06
    have x1:=fun {x y:R}=>Xn (x:=x) (y:=y) j3
    refine goD ?_
    clear fq1 x1
    exact IH hlt _ _ (by rw [hw];rfl) (by show _=List.set _ 1 _;rw [hsn2,j4];simp only [Zj,List.map_append,List.map_set,List.map_cons,List.map_nil];rfl)
   ·have hno:¬(((((((s.th p).limbo.filter fun h=>!((s.th p).found++[(cl s (hazB s.c (IntKind.i64.wrap ((s.th p).pos.tdiv 2)) ((s.th p).pos.tmod 2)))]).contains h).take k).foldl Xz (s.gens,(s.th p).free)).1).getD (idxB h0k).toNat default)<9998∧(((((s.th p).limbo.filter fun h=>!((s.th p).found++[(cl s (hazB s.c (IntKind.i64.wrap ((s.th p).pos.tdiv 2)) ((s.th p).pos.tmod 2)))]).contains h).take k).foldl Xz (s.gens,(s.th p).free)).2).length<100):=fun h=>hx8 h.2
    have j1:decide (((((((s.th p).limbo.filter fun h=>!((s.th p).found++[(cl s (hazB s.c (IntKind.i64.wrap ((s.th p).pos.tdiv 2)) ((s.th p).pos.tmod 2)))]).contains h).take k).foldl Xz (s.gens,(s.th p).free)).1).getD (idxB h0k).toNat default)<9998)=true:=decide_eq_true hx9
    have j2:decide ((((((((s.th p).limbo.filter fun h=>!((s.th p).found++[(cl s (hazB s.c (IntKind.i64.wrap ((s.th p).pos.tdiv 2)) ((s.th p).pos.tmod 2)))]).contains h).take k).foldl Xz (s.gens,(s.th p).free)).2).map iA).length:Int)<100)=false:=decide_eq_false (by rw [List.length_map];omega)
    have hsn2:=hsn.trans (if_neg hno)
    have fq1:=fun {n:Nat}=>X8 (n:=n) h06
    refine goD ?_
    clear fq1
    exact IH hlt _ _ (by rw [hw];rfl) (by show _=List.set _ 1 _;rw [hsn2];rfl)
  ·have hno:¬(((((((s.th p).limbo.filter fun h=>!((s.th p).found++[(cl s (hazB s.c (IntKind.i64.wrap ((s.th p).pos.tdiv 2)) ((s.th p).pos.tmod 2)))]).contains h).take k).foldl Xz (s.gens,(s.th p).free)).1).getD (idxB h0k).toNat default)<9998∧(((((s.th p).limbo.filter fun h=>!((s.th p).found++[(cl s (hazB s.c (IntKind.i64.wrap ((s.th p).pos.tdiv 2)) ((s.th p).pos.tmod 2)))]).contains h).take k).foldl Xz (s.gens,(s.th p).free)).2).length<100):=fun h=>hx9 h.1
   have j1:decide (((((((s.th p).limbo.filter fun h=>!((s.th p).found++[(cl s (hazB s.c (IntKind.i64.wrap ((s.th p).pos.tdiv 2)) ((s.th p).pos.tmod 2)))]).contains h).take k).foldl Xz (s.gens,(s.th p).free)).1).getD (idxB h0k).toNat default)<9998)=false:=decide_eq_false hx9
   have hsn2:=hsn.trans (if_neg hno)
   have fq1:=fun {n:Nat}=>X8 (n:=n) h06
   refine goD ?_
   clear fq1
   exact IH hlt _ _ (by rw [hw];rfl) (by show _=List.set _ 1 _;rw [hsn2];rfl)
 ·have e1':=Xh (f:=iA) (xs:=((s.th p).limbo.filter fun h=>!((s.th p).found++[(cl s (hazB s.c (IntKind.i64.wrap ((s.th p).pos.tdiv 2)) ((s.th p).pos.tmod 2)))]).contains h)) (Nat.le_of_not_lt hlt)
  have hall:((s.th p).limbo.filter fun h=>!((s.th p).found++[(cl s (hazB s.c (IntKind.i64.wrap ((s.th p).pos.tdiv 2)) ((s.th p).pos.tmod 2)))]).contains h).take k=((s.th p).limbo.filter fun h=>!((s.th p).found++[(cl s (hazB s.c (IntKind.i64.wrap ((s.th p).pos.tdiv 2)) ((s.th p).pos.tmod 2)))]).contains h):=List.take_of_length_le (by omega)
  rw [hall]
  have st1:=r1
  refine goD ?_
  refine okRf ?_
  simp only [staA,thsA,Xl,Yu,setT,endT,clr,List.map_set,Wx,Wy,Xab,decide_eq_true_eq,beq2,ld,w0,w1,w2,w3,wp,h,hE,Zj,List.map_append,List.map_cons,List.map_nil,iA,thA]
  try rfl
theorem R_70 {n:Nat} {s:Sta} {p:Nat} (hs:staB s=true) (hr:s.room) (hi:s.i64) (hp:p<s.ths.length) (h:(s.th p).pc=70):RK (n+15) s p:=by
 by_cases h1:(s.th p).pos+1<2*s.c.th
 ·by_cases h0:(cl s (hazB s.c ((s.th p).pos / 2) ((s.th p).pos % 2)))=0
  ·exact X6x hs hr hi hp h h1 h0
  ·exact X6y hs hr hi hp h h1 h0
 ·by_cases h0:(cl s (hazB s.c ((s.th p).pos / 2) ((s.th p).pos % 2)))=0
  ·exact X5l hs hr hi hp h h1 h0
  ·exact X5m hs hr hi hp h h1 h0
end Go.Proofs.YtbploohjimpcaaaGreat.A
