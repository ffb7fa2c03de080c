/- What the program's functions answer (Ua): no condition. -/
import Derived.Test.YtbploohjimpcaaaGreatGg
set_option linter.unusedVariables false
set_option linter.unusedSimpArgs false
namespace Go.Proofs.YtbploohjimpcaaaGreat.A
open Go Go.Abs
set_option maxRecDepth 100000
noncomputable section
structure Mm where
 ck:Int
 ar:Int
 an:Nat→Int
 hz:Nat→Int
 hd:Nat→Int
 st:Nat→Int
 vl:Nat→Int
 ol:Nat→Int
 gn:Nat→Int
theorem Mm.eq {a b:Mm} (h1:a.ck=b.ck) (h2:a.ar=b.ar) (h3:a.an=b.an) (h4:a.hz=b.hz) (h5:a.hd=b.hd) (h6:a.st=b.st) (h7:a.vl=b.vl) (h8:a.ol=b.ol) (h9:a.gn=b.gn):a=b:=by
 cases a;cases b;dsimp only at *;subst h1 h2 h3 h4 h5 h6 h7 h8 h9;rfl
def upd {α:Type} (f:Nat→α) (i:Nat) (v:α):Nat→α:=fun j=>if j=i then v else f j
theorem upd_s {α:Type} {f:Nat→α} {i:Nat} {v:α}:upd f i v i=v:=if_pos rfl
theorem upd_n {α:Type} {f:Nat→α} {i j:Nat} {v:α} (h:j≠i):upd f i v j=f j:=if_neg h
def mm (s:Sta):Mm where
 ck:=cl s 0
 ar:=cl s 1
 an:=fun i=>if (i:Int)<s.c.th then cl s (2+i) else 0
 hz:=fun i=>if (i:Int)<2*s.c.th then cl s (2+s.c.th+i) else 0
 hd:=fun i=>if (i:Int)<s.c.keys then cl s (2+3*s.c.th+i) else 0
 st:=fun i=>if (i:Int)<s.c.cap then cl s (2+3*s.c.th+s.c.keys+3*i) else 0
 vl:=fun i=>if (i:Int)<s.c.cap then cl s (2+3*s.c.th+s.c.keys+3*i+1) else 0
 ol:=fun i=>if (i:Int)<s.c.cap then cl s (2+3*s.c.th+s.c.keys+3*i+2) else 0
 gn:=fun i=>s.gens.getD i default
theorem mm_ck {s:Sta} (H:CV s) {v:Int}:mm (put s (0) v)={mm s with ck:=v}:=by
 have hb:=Xm H.cf
 have hl:=H.lc
 have C:=fun (i:Int) (hi:0≤i)=>X4t (s:=s) (a:=0) (v:=v) (i:=i) (by omega) hi
 refine Mm.eq ?_ ?_ ?_ ?_ ?_ ?_ ?_ ?_ (by unfold mm;rw [Xss])
 ·unfold mm;dsimp only;rw [C _ (by omega),if_pos rfl]
 ·unfold mm;dsimp only;rw [C _ (by omega),if_neg (by omega)]
 ·unfold mm;dsimp only;funext i;rw [Xfz];by_cases hh:(i:Int)<s.c.th
  ·rw [if_pos hh,if_pos hh,C _ (by omega),if_neg (by omega)]
  ·rw [if_neg hh,if_neg hh]
 ·unfold mm;dsimp only;funext i;rw [Xfz];by_cases hh:(i:Int)<2*s.c.th
  ·rw [if_pos hh,if_pos hh,C _ (by omega),if_neg (by omega)]
  ·rw [if_neg hh,if_neg hh]
 ·unfold mm;dsimp only;funext i;rw [Xfz];by_cases hh:(i:Int)<s.c.keys
  ·rw [if_pos hh,if_pos hh,C _ (by omega),if_neg (by omega)]
  ·rw [if_neg hh,if_neg hh]
 ·unfold mm;dsimp only;funext i;rw [Xfz];by_cases hh:(i:Int)<s.c.cap
  ·rw [if_pos hh,if_pos hh,C _ (by omega),if_neg (by omega)]
  ·rw [if_neg hh,if_neg hh]
 ·unfold mm;dsimp only;funext i;rw [Xfz];by_cases hh:(i:Int)<s.c.cap
  ·rw [if_pos hh,if_pos hh,C _ (by omega),if_neg (by omega)]
  ·rw [if_neg hh,if_neg hh]
 ·unfold mm;dsimp only;funext i;rw [Xfz];by_cases hh:(i:Int)<s.c.cap
  ·rw [if_pos hh,if_pos hh,C _ (by omega),if_neg (by omega)]
  ·rw [if_neg hh,if_neg hh]
theorem mm_ar {s:Sta} (H:CV s) {v:Int}:mm (put s (1) v)={mm s with ar:=v}:=by
 have hb:=Xm H.cf
 have hl:=H.lc
 have C:=fun (i:Int) (hi:0≤i)=>X4t (s:=s) (a:=1) (v:=v) (i:=i) (by omega) hi
 refine Mm.eq ?_ ?_ ?_ ?_ ?_ ?_ ?_ ?_ (by unfold mm;rw [Xss])
 ·unfold mm;dsimp only;rw [C _ (by omega),if_neg (by omega)]
 ·unfold mm;dsimp only;rw [C _ (by omega),if_pos rfl]
 ·unfold mm;dsimp only;funext i;rw [Xfz];by_cases hh:(i:Int)<s.c.th
  ·rw [if_pos hh,if_pos hh,C _ (by omega),if_neg (by omega)]
  ·rw [if_neg hh,if_neg hh]
 ·unfold mm;dsimp only;funext i;rw [Xfz];by_cases hh:(i:Int)<2*s.c.th
  ·rw [if_pos hh,if_pos hh,C _ (by omega),if_neg (by omega)]
  ·rw [if_neg hh,if_neg hh]
 ·unfold mm;dsimp only;funext i;rw [Xfz];by_cases hh:(i:Int)<s.c.keys
  ·rw [if_pos hh,if_pos hh,C _ (by omega),if_neg (by omega)]
  ·rw [if_neg hh,if_neg hh]
 ·unfold mm;dsimp only;funext i;rw [Xfz];by_cases hh:(i:Int)<s.c.cap
  ·rw [if_pos hh,if_pos hh,C _ (by omega),if_neg (by omega)]
  ·rw [if_neg hh,if_neg hh]
 ·unfold mm;dsimp only;funext i;rw [Xfz];by_cases hh:(i:Int)<s.c.cap
  ·rw [if_pos hh,if_pos hh,C _ (by omega),if_neg (by omega)]
  ·rw [if_neg hh,if_neg hh]
 ·unfold mm;dsimp only;funext i;rw [Xfz];by_cases hh:(i:Int)<s.c.cap
  ·rw [if_pos hh,if_pos hh,C _ (by omega),if_neg (by omega)]
  ·rw [if_neg hh,if_neg hh]
theorem mm_an {s:Sta} (H:CV s) {j:Nat} (hj:(j:Int)<s.c.th) {v:Int}:mm (put s (2+j) v)={mm s with an:=upd (mm s).an j v}:=by
 have hb:=Xm H.cf
 have hl:=H.lc
 have C:=fun (i:Int) (hi:0≤i)=>X4t (s:=s) (a:=2+j) (v:=v) (i:=i) (by omega) hi
 refine Mm.eq ?_ ?_ ?_ ?_ ?_ ?_ ?_ ?_ (by unfold mm;rw [Xss])
 ·unfold mm;dsimp only;rw [C _ (by omega),if_neg (by omega)]
 ·unfold mm;dsimp only;rw [C _ (by omega),if_neg (by omega)]
 ·unfold mm upd;dsimp only;funext i;rw [Xfz];by_cases hh:(i:Int)<s.c.th
  ·rw [if_pos hh,if_pos hh,C _ (by omega)];by_cases hi:i=j
   ·rw [if_pos (by omega),if_pos hi]
   ·rw [if_neg (by omega),if_neg hi]
  ·rw [if_neg hh,if_neg hh,if_neg (by omega)]
 ·unfold mm;dsimp only;funext i;rw [Xfz];by_cases hh:(i:Int)<2*s.c.th
  ·rw [if_pos hh,if_pos hh,C _ (by omega),if_neg (by omega)]
  ·rw [if_neg hh,if_neg hh]
 ·unfold mm;dsimp only;funext i;rw [Xfz];by_cases hh:(i:Int)<s.c.keys
  ·rw [if_pos hh,if_pos hh,C _ (by omega),if_neg (by omega)]
  ·rw [if_neg hh,if_neg hh]
 ·unfold mm;dsimp only;funext i;rw [Xfz];by_cases hh:(i:Int)<s.c.cap
  ·rw [if_pos hh,if_pos hh,C _ (by omega),if_neg (by omega)]
  ·rw [if_neg hh,if_neg hh]
 ·unfold mm;dsimp only;funext i;rw [Xfz];by_cases hh:(i:Int)<s.c.cap
  ·rw [if_pos hh,if_pos hh,C _ (by omega),if_neg (by omega)]
  ·rw [if_neg hh,if_neg hh]
 ·unfold mm;dsimp only;funext i;rw [Xfz];by_cases hh:(i:Int)<s.c.cap
  ·rw [if_pos hh,if_pos hh,C _ (by omega),if_neg (by omega)]
  ·rw [if_neg hh,if_neg hh]
theorem mm_hz {s:Sta} (H:CV s) {j:Nat} (hj:(j:Int)<2*s.c.th) {v:Int}:mm (put s (2+s.c.th+j) v)={mm s with hz:=upd (mm s).hz j v}:=by
 have hb:=Xm H.cf
 have hl:=H.lc
 have C:=fun (i:Int) (hi:0≤i)=>X4t (s:=s) (a:=2+s.c.th+j) (v:=v) (i:=i) (by omega) hi
 refine Mm.eq ?_ ?_ ?_ ?_ ?_ ?_ ?_ ?_ (by unfold mm;rw [Xss])
 ·unfold mm;dsimp only;rw [C _ (by omega),if_neg (by omega)]
 ·unfold mm;dsimp only;rw [C _ (by omega),if_neg (by omega)]
 ·unfold mm;dsimp only;funext i;rw [Xfz];by_cases hh:(i:Int)<s.c.th
  ·rw [if_pos hh,if_pos hh,C _ (by omega),if_neg (by omega)]
  ·rw [if_neg hh,if_neg hh]
 ·unfold mm upd;dsimp only;funext i;rw [Xfz];by_cases hh:(i:Int)<2*s.c.th
  ·rw [if_pos hh,if_pos hh,C _ (by omega)];by_cases hi:i=j
   ·rw [if_pos (by omega),if_pos hi]
   ·rw [if_neg (by omega),if_neg hi]
  ·rw [if_neg hh,if_neg hh,if_neg (by omega)]
 ·unfold mm;dsimp only;funext i;rw [Xfz];by_cases hh:(i:Int)<s.c.keys
  ·rw [if_pos hh,if_pos hh,C _ (by omega),if_neg (by omega)]
  ·rw [if_neg hh,if_neg hh]
 ·unfold mm;dsimp only;funext i;rw [Xfz];by_cases hh:(i:Int)<s.c.cap
  ·rw [if_pos hh,if_pos hh,C _ (by omega),if_neg (by omega)]
  ·rw [if_neg hh,if_neg hh]
 ·unfold mm;dsimp only;funext i;rw [Xfz];by_cases hh:(i:Int)<s.c.cap
  ·rw [if_pos hh,if_pos hh,C _ (by omega),if_neg (by omega)]
  ·rw [if_neg hh,if_neg hh]
 ·unfold mm;dsimp only;funext i;rw [Xfz];by_cases hh:(i:Int)<s.c.cap
  ·rw [if_pos hh,if_pos hh,C _ (by omega),if_neg (by omega)]
  ·rw [if_neg hh,if_neg hh]
theorem mm_hd {s:Sta} (H:CV s) {j:Nat} (hj:(j:Int)<s.c.keys) {v:Int}:mm (put s (2+3*s.c.th+j) v)={mm s with hd:=upd (mm s).hd j v}:=by
 have hb:=Xm H.cf
 have hl:=H.lc
 have C:=fun (i:Int) (hi:0≤i)=>X4t (s:=s) (a:=2+3*s.c.th+j) (v:=v) (i:=i) (by omega) hi
 refine Mm.eq ?_ ?_ ?_ ?_ ?_ ?_ ?_ ?_ (by unfold mm;rw [Xss])
 ·unfold mm;dsimp only;rw [C _ (by omega),if_neg (by omega)]
 ·unfold mm;dsimp only;rw [C _ (by omega),if_neg (by omega)]
 ·unfold mm;dsimp only;funext i;rw [Xfz];by_cases hh:(i:Int)<s.c.th
  ·rw [if_pos hh,if_pos hh,C _ (by omega),if_neg (by omega)]
  ·rw [if_neg hh,if_neg hh]
 ·unfold mm;dsimp only;funext i;rw [Xfz];by_cases hh:(i:Int)<2*s.c.th
  ·rw [if_pos hh,if_pos hh,C _ (by omega),if_neg (by omega)]
  ·rw [if_neg hh,if_neg hh]
 ·unfold mm upd;dsimp only;funext i;rw [Xfz];by_cases hh:(i:Int)<s.c.keys
  ·rw [if_pos hh,if_pos hh,C _ (by omega)];by_cases hi:i=j
   ·rw [if_pos (by omega),if_pos hi]
   ·rw [if_neg (by omega),if_neg hi]
  ·rw [if_neg hh,if_neg hh,if_neg (by omega)]
 ·unfold mm;dsimp only;funext i;rw [Xfz];by_cases hh:(i:Int)<s.c.cap
  ·rw [if_pos hh,if_pos hh,C _ (by omega),if_neg (by omega)]
  ·rw [if_neg hh,if_neg hh]
 ·unfold mm;dsimp only;funext i;rw [Xfz];by_cases hh:(i:Int)<s.c.cap
  ·rw [if_pos hh,if_pos hh,C _ (by omega),if_neg (by omega)]
  ·rw [if_neg hh,if_neg hh]
 ·unfold mm;dsimp only;funext i;rw [Xfz];by_cases hh:(i:Int)<s.c.cap
  ·rw [if_pos hh,if_pos hh,C _ (by omega),if_neg (by omega)]
  ·rw [if_neg hh,if_neg hh]
theorem mm_st {s:Sta} (H:CV s) {j:Nat} (hj:(j:Int)<s.c.cap) {v:Int}:mm (put s (2+3*s.c.th+s.c.keys+3*j) v)={mm s with st:=upd (mm s).st j v}:=by
 have hb:=Xm H.cf
 have hl:=H.lc
 have C:=fun (i:Int) (hi:0≤i)=>X4t (s:=s) (a:=2+3*s.c.th+s.c.keys+3*j) (v:=v) (i:=i) (by omega) hi
 refine Mm.eq ?_ ?_ ?_ ?_ ?_ ?_ ?_ ?_ (by unfold mm;rw [Xss])
 ·unfold mm;dsimp only;rw [C _ (by omega),if_neg (by omega)]
 ·unfold mm;dsimp only;rw [C _ (by omega),if_neg (by omega)]
 ·unfold mm;dsimp only;funext i;rw [Xfz];by_cases hh:(i:Int)<s.c.th
  ·rw [if_pos hh,if_pos hh,C _ (by omega),if_neg (by omega)]
  ·rw [if_neg hh,if_neg hh]
 ·unfold mm;dsimp only;funext i;rw [Xfz];by_cases hh:(i:Int)<2*s.c.th
  ·rw [if_pos hh,if_pos hh,C _ (by omega),if_neg (by omega)]
  ·rw [if_neg hh,if_neg hh]
 ·unfold mm;dsimp only;funext i;rw [Xfz];by_cases hh:(i:Int)<s.c.keys
  ·rw [if_pos hh,if_pos hh,C _ (by omega),if_neg (by omega)]
  ·rw [if_neg hh,if_neg hh]
 ·unfold mm upd;dsimp only;funext i;rw [Xfz];by_cases hh:(i:Int)<s.c.cap
  ·rw [if_pos hh,if_pos hh,C _ (by omega)];by_cases hi:i=j
   ·rw [if_pos (by omega),if_pos hi]
   ·rw [if_neg (by omega),if_neg hi]
  ·rw [if_neg hh,if_neg hh,if_neg (by omega)]
 ·unfold mm;dsimp only;funext i;rw [Xfz];by_cases hh:(i:Int)<s.c.cap
  ·rw [if_pos hh,if_pos hh,C _ (by omega),if_neg (by omega)]
  ·rw [if_neg hh,if_neg hh]
 ·unfold mm;dsimp only;funext i;rw [Xfz];by_cases hh:(i:Int)<s.c.cap
  ·rw [if_pos hh,if_pos hh,C _ (by omega),if_neg (by omega)]
  ·rw [if_neg hh,if_neg hh]
theorem mm_vl {s:Sta} (H:CV s) {j:Nat} (hj:(j:Int)<s.c.cap) {v:Int}:mm (put s (2+3*s.c.th+s.c.keys+3*j+1) v)={mm s with vl:=upd (mm s).vl j v}:=by
 have hb:=Xm H.cf
 have hl:=H.lc
 have C:=fun (i:Int) (hi:0≤i)=>X4t (s:=s) (a:=2+3*s.c.th+s.c.keys+3*j+1) (v:=v) (i:=i) (by omega) hi
 refine Mm.eq ?_ ?_ ?_ ?_ ?_ ?_ ?_ ?_ (by unfold mm;rw [Xss])
 ·unfold mm;dsimp only;rw [C _ (by omega),if_neg (by omega)]
 ·unfold mm;dsimp only;rw [C _ (by omega),if_neg (by omega)]
 ·unfold mm;dsimp only;funext i;rw [Xfz];by_cases hh:(i:Int)<s.c.th
  ·rw [if_pos hh,if_pos hh,C _ (by omega),if_neg (by omega)]
  ·rw [if_neg hh,if_neg hh]
 ·unfold mm;dsimp only;funext i;rw [Xfz];by_cases hh:(i:Int)<2*s.c.th
  ·rw [if_pos hh,if_pos hh,C _ (by omega),if_neg (by omega)]
  ·rw [if_neg hh,if_neg hh]
 ·unfold mm;dsimp only;funext i;rw [Xfz];by_cases hh:(i:Int)<s.c.keys
  ·rw [if_pos hh,if_pos hh,C _ (by omega),if_neg (by omega)]
  ·rw [if_neg hh,if_neg hh]
 ·unfold mm;dsimp only;funext i;rw [Xfz];by_cases hh:(i:Int)<s.c.cap
  ·rw [if_pos hh,if_pos hh,C _ (by omega),if_neg (by omega)]
  ·rw [if_neg hh,if_neg hh]
 ·unfold mm upd;dsimp only;funext i;rw [Xfz];by_cases hh:(i:Int)<s.c.cap
  ·rw [if_pos hh,if_pos hh,C _ (by omega)];by_cases hi:i=j
   ·rw [if_pos (by omega),if_pos hi]
   ·rw [if_neg (by omega),if_neg hi]
  ·rw [if_neg hh,if_neg hh,if_neg (by omega)]
 ·unfold mm;dsimp only;funext i;rw [Xfz];by_cases hh:(i:Int)<s.c.cap
  ·rw [if_pos hh,if_pos hh,C _ (by omega),if_neg (by omega)]
  ·rw [if_neg hh,if_neg hh]
theorem mm_ol {s:Sta} (H:CV s) {j:Nat} (hj:(j:Int)<s.c.cap) {v:Int}:mm (put s (2+3*s.c.th+s.c.keys+3*j+2) v)={mm s with ol:=upd (mm s).ol j v}:=by
 have hb:=Xm H.cf
 have hl:=H.lc
 have C:=fun (i:Int) (hi:0≤i)=>X4t (s:=s) (a:=2+3*s.c.th+s.c.keys+3*j+2) (v:=v) (i:=i) (by omega) hi
 refine Mm.eq ?_ ?_ ?_ ?_ ?_ ?_ ?_ ?_ (by unfold mm;rw [Xss])
 ·unfold mm;dsimp only;rw [C _ (by omega),if_neg (by omega)]
 ·unfold mm;dsimp only;rw [C _ (by omega),if_neg (by omega)]
 ·unfold mm;dsimp only;funext i;rw [Xfz];by_cases hh:(i:Int)<s.c.th
  ·rw [if_pos hh,if_pos hh,C _ (by omega),if_neg (by omega)]
  ·rw [if_neg hh,if_neg hh]
 ·unfold mm;dsimp only;funext i;rw [Xfz];by_cases hh:(i:Int)<2*s.c.th
  ·rw [if_pos hh,if_pos hh,C _ (by omega),if_neg (by omega)]
  ·rw [if_neg hh,if_neg hh]
 ·unfold mm;dsimp only;funext i;rw [Xfz];by_cases hh:(i:Int)<s.c.keys
  ·rw [if_pos hh,if_pos hh,C _ (by omega),if_neg (by omega)]
  ·rw [if_neg hh,if_neg hh]
 ·unfold mm;dsimp only;funext i;rw [Xfz];by_cases hh:(i:Int)<s.c.cap
  ·rw [if_pos hh,if_pos hh,C _ (by omega),if_neg (by omega)]
  ·rw [if_neg hh,if_neg hh]
 ·unfold mm;dsimp only;funext i;rw [Xfz];by_cases hh:(i:Int)<s.c.cap
  ·rw [if_pos hh,if_pos hh,C _ (by omega),if_neg (by omega)]
  ·rw [if_neg hh,if_neg hh]
 ·unfold mm upd;dsimp only;funext i;rw [Xfz];by_cases hh:(i:Int)<s.c.cap
  ·rw [if_pos hh,if_pos hh,C _ (by omega)];by_cases hi:i=j
   ·rw [if_pos (by omega),if_pos hi]
   ·rw [if_neg (by omega),if_neg hi]
  ·rw [if_neg hh,if_neg hh,if_neg (by omega)]
def hl (g:Nat→Int) (i:Nat):Int:=(g i*64+i+1)*2
def ix (h:Int):Nat:=(idxB h).toNat
theorem hl_isH {g:Nat→Int} {i:Nat} (hi:i<63) (h0:0≤g i∧g i≤9999):isH (hl g i)=true:=by unfold isH hl;exact decide_eq_true (by omega)
theorem hl_idx {g:Nat→Int} {i:Nat} (hi:i<63) (h0:0≤g i∧g i≤9999):idxB (hl g i)=i:=by unfold idxB;rw [if_pos (hl_isH hi h0)];unfold hl;omega
theorem hl_ix {g:Nat→Int} {i:Nat} (hi:i<63) (h0:0≤g i∧g i≤9999):ix (hl g i)=i:=by unfold ix;rw [hl_idx hi h0];omega
theorem hl_gen {g:Nat→Int} {i:Nat} (hi:i<63) (h0:0≤g i∧g i≤9999):genB (hl g i)=g i:=by unfold genB;rw [if_pos (hl_isH hi h0)];unfold hl;omega
theorem hl_mk {g:Nat→Int} {i:Nat}:isMk (hl g i)=false:=by
 unfold isMk
 rw [decide_eq_false (show ¬hl g i=1 by unfold hl;omega),decide_eq_false (show ¬hl g i % 2=1 by unfold hl;omega),Bool.and_false];rfl
theorem hl_un {g:Nat→Int} {i:Nat}:unmk (hl g i)=hl g i:=by unfold unmk;rw [hl_mk];rfl
theorem hl_pos {g:Nat→Int} {i:Nat} (h0:0≤g i):2≤hl g i:=by unfold hl;omega
theorem hl_mkH {g:Nat→Int} {i:Nat} (hi:i<63) (h0:0≤g i∧g i≤9999):mkH i (g i)=hl g i:=by unfold mkH hl;rw [if_neg (by omega)]
theorem mrk_0:mrk 0=1:=by unfold mrk;rw [if_pos (.inl rfl)];rfl
theorem isMk_1:isMk 1=true:=by unfold isMk;simp
theorem unmk_1:unmk 1=0:=by unfold unmk;rw [if_pos isMk_1];rfl
theorem hl_inj {g:Nat→Int} {i j:Nat} (hi:i<63) (hj:j<63) (h:hl g i=hl g j):i=j:=by unfold hl at h;omega
theorem CV.gnb {s:Sta} (H:CV s) {i:Nat} (hi:(i:Int)<s.c.cap):i<63∧0≤(mm s).gn i∧(mm s).gn i≤9999:=by
 have hb:=Xm H.cf
 have:=H.lg
 have:=H.gn i (by omega)
 unfold mm;dsimp only;omega
theorem cur_hl {s:Sta} (H:CV s) {i:Nat} (hi:(i:Int)<s.c.cap):curB s (hl (mm s).gn i)=true:=by
 obtain ⟨h1,h2⟩:=H.gnb hi
 unfold curB Y4
 rw [hl_isH h1 h2,hl_idx h1 h2,hl_gen h1 h2,decide_eq_true hi]
 simp [mm]
theorem hl_cur {s:Sta} (H:CV s) {h:Int} (hc:curB s h=true) (hm:isMk h=false):∃ i:Nat,(i:Int)<s.c.cap∧h=hl (mm s).gn i∧ix h=i:=by
 have hx:=Y3 (Vi hc)
 unfold curB Y4 at hc
 simp only [Bool.and_eq_true,decide_eq_true_eq,beq_iff_eq] at hc
 obtain ⟨⟨h1,h2⟩,h3⟩:=hc
 refine ⟨ix h,by unfold ix;omega,?_,rfl⟩
 unfold isMk at hm
 rw [h1] at hm
 simp only [Bool.true_and,Bool.or_eq_false_iff,decide_eq_false_iff_not] at hm
 unfold hl ix mm
 dsimp only
 have q1:genB h=h / 2 / 64:=by unfold genB;rw [if_pos h1]
 have q2:idxB h=h / 2 % 64 - 1:=by unfold idxB;rw [if_pos h1]
 rw [h3,q1]
 rw [q2] at hx ⊢
 unfold isH at h1
 have:=of_decide_eq_true h1
 omega
theorem fld_hl {s:Sta} (H:CV s) {i:Nat} {f:Int} (hi:(i:Int)<s.c.cap) (hf:0≤f∧f≤2):fldA s (hl (mm s).gn i) f=2+3*s.c.th+s.c.keys+3*i+f:=by
 obtain ⟨h1,h2⟩:=H.gnb hi
 have hc:=cur_hl H hi
 rw [Xu (by rw [hl_un];exact hc),hl_un,hl_idx h1 h2,Xj5 H.cf (by omega) hi hf]
end
noncomputable section
structure RS (s:Sta) (p:Nat) (m:Mm) (t:Th) (dc dr:Int):Prop where
 m:mm (stepV s p)=m
 t:(stepV s p).ths=s.ths.set p t
 c:(stepV s p).c=s.c
 f:(stepV s p).faults=s.faults
 ch:(stepV s p).changes=s.changes+dc
 rt:(stepV s p).retries=s.retries+dr
theorem RS.id {s:Sta} {p:Nat} {t:Th} (hK:Ye s p (s.th p)=setT s p t):RS s p (mm s) t 0 0:=by
 have e:stepV s p={setT s p t with steps:=s.steps+1}:=by unfold stepV;rw [hK]
 refine ⟨?_,?_,?_,?_,?_,?_⟩ <;> rw [e] <;> first | rfl | (show _=_+0;rw [Int.add_zero])
theorem RS.put {s:Sta} {p:Nat} {t:Th} {m:Mm} {a v old:Int} (hK:Ye s p (s.th p)=setT (A.put s a v) p t) (ha:0≤a∧a<(s.cells.length:Int)) (hm:mm (A.put s a v)=m) (ho:cl s a=old):RS s p m t (if old=v then 0 else 1) 0:=by
 subst hm ho
 have e:stepV s p={setT (A.put s a v) p t with steps:=s.steps+1}:=by unfold stepV;rw [hK]
 refine ⟨?_,?_,?_,?_,?_,?_⟩ <;> rw [e]
 ·rfl
 ·show (A.put s a v).ths.set p t=_;rw [Xqq]
 ·show (A.put s a v).c=_;rw [Xfz]
 ·show (A.put s a v).faults=_;rw [X0a]
 ·show (A.put s a v).changes=_
  unfold A.put;rw [if_pos ha];dsimp only;split <;> omega
 ·show (A.put s a v).retries=_;rw [Xz9];omega
theorem RS.rtr {s:Sta} {p:Nat} {t:Th} {b:Bool} (hK:Ye s p (s.th p)=setT (A.rtr s b) p t):RS s p (mm s) t 0 (if b=true then 0 else 1):=by
 have e:stepV s p={setT (A.rtr s b) p t with steps:=s.steps+1}:=by unfold stepV;rw [hK]
 refine ⟨?_,?_,?_,?_,?_,?_⟩ <;> rw [e]
 ·show mm (A.rtr s b)=_;unfold mm cl;rw [X0f,Xxl,X0g]
 ·show (A.rtr s b).ths.set p t=_;rw [Xqr]
 ·exact X0f (s:=s) (b:=b)
 ·exact X0j
 ·show (A.rtr s b).changes=_;rw [X0i];omega
 ·show (A.rtr s b).retries=_;unfold A.rtr;cases b <;> simp
def lkv (m:Mm) (t:Th):Int:=if t.prev=0 then m.hd (wKey t).toNat else m.ol (ix t.prev)
theorem at_an {s:Sta} {j:Nat} (h:(j:Int)<s.c.th):cl s (2+j)=(mm s).an j:=by unfold mm;dsimp only;rw [if_pos h]
theorem at_hz {s:Sta} {j:Nat} (h:(j:Int)<2*s.c.th):cl s (2+s.c.th+j)=(mm s).hz j:=by unfold mm;dsimp only;rw [if_pos h]
theorem at_hd {s:Sta} {j:Nat} (h:(j:Int)<s.c.keys):cl s (2+3*s.c.th+j)=(mm s).hd j:=by unfold mm;dsimp only;rw [if_pos h]
theorem at_st {s:Sta} {j:Nat} (h:(j:Int)<s.c.cap):cl s (2+3*s.c.th+s.c.keys+3*j)=(mm s).st j:=by unfold mm;dsimp only;rw [if_pos h]
theorem at_vl {s:Sta} {j:Nat} (h:(j:Int)<s.c.cap):cl s (2+3*s.c.th+s.c.keys+3*j+1)=(mm s).vl j:=by unfold mm;dsimp only;rw [if_pos h]
theorem at_ol {s:Sta} {j:Nat} (h:(j:Int)<s.c.cap):cl s (2+3*s.c.th+s.c.keys+3*j+2)=(mm s).ol j:=by unfold mm;dsimp only;rw [if_pos h]
theorem fx {s:Sta} (H:CV s) {h f:Int} (hc:curB s h=true) (hm:isMk h=false) (hf:0≤f∧f≤2):(ix h:Int)<s.c.cap∧fldA s h f=2+3*s.c.th+s.c.keys+3*(ix h:Int)+f∧(0≤fldA s h f∧fldA s h f<(s.cells.length:Int))∧flt s h=s:=by
 obtain ⟨i,hi,e,ei⟩:=hl_cur H hc hm
 have hb:=Xm H.cf
 have hl:=H.lc
 have hfd:=fld_hl H hi hf
 rw [←e] at hfd
 rw [ei,hfd]
 refine ⟨hi,rfl,by omega,X4 ?_⟩
 rw [e,hl_un,←e];exact hc
theorem CV.anb {s:Sta} (H:CV s) {j:Nat} (hj:(j:Int)<s.c.th):annB s.c j=2+(j:Int)∧0≤annB s.c j∧annB s.c j<(s.cells.length:Int)∧ld s (annB s.c j)=(mm s).an j:=by
 have hb:=Xm H.cf
 have hl:=H.lc
 have e:=Xqo H.cf (p:=j) (by omega) hj
 refine ⟨e,by omega,by omega,?_⟩
 rw [Zl (by omega),e,at_an hj]
theorem CV.hzb {s:Sta} (H:CV s) {p j:Nat} (hp:(p:Int)<s.c.th) (hj:j≤1):hazB s.c p j=2+s.c.th+((2*p+j:Nat):Int)∧0≤hazB s.c p j∧hazB s.c p j<(s.cells.length:Int)∧((2*p+j:Nat):Int)<2*s.c.th∧ld s (hazB s.c p j)=(mm s).hz (2*p+j):=by
 have hb:=Xm H.cf
 have hl:=H.lc
 have e:=Xqp H.cf (p:=p) (j:=j) (by omega) hp (by omega)
 have e2:hazB s.c p j=2+s.c.th+((2*p+j:Nat):Int):=by rw [e];omega
 refine ⟨e2,by omega,by omega,by omega,?_⟩
 rw [Zl (by omega),e2,at_hz (by omega)]
theorem CV.hdb {s:Sta} (H:CV s) {k:Int} (h0:0≤k) (h1:k<s.c.keys):X2 s.c k=2+3*s.c.th+(k.toNat:Int)∧0≤X2 s.c k∧X2 s.c k<(s.cells.length:Int)∧ld s (X2 s.c k)=(mm s).hd k.toNat∧((k.toNat:Nat):Int)<s.c.keys∧cl s (X2 s.c k)=(mm s).hd k.toNat:=by
 have hb:=Xm H.cf
 have hl:=H.lc
 have e:=Xfx H.cf h0 h1
 have e2:X2 s.c k=2+3*s.c.th+(k.toNat:Int):=by rw [e];omega
 have e3:cl s (X2 s.c k)=(mm s).hd k.toNat:=by rw [e2,at_hd (by omega)]
 refine ⟨e2,by omega,by omega,?_,by omega,e3⟩
 rw [Zl (by omega),e3]
theorem clck {s:Sta}:cl s 0=(mm s).ck:=rfl
theorem clar {s:Sta}:cl s 1=(mm s).ar:=rfl
theorem lk_at {s:Sta} (H:CV s) {t:Th} (T:TV s.c t) (h0:t.pc≠0) (hc:t.prev≠0→curB s t.prev=true):lnkF s t=s∧(0≤lnkA s t∧lnkA s t<(s.cells.length:Int))∧cl s (lnkA s t)=lkv (mm s) t ∧
 (t.prev=0→lnkA s t=2+3*s.c.th+((wKey t).toNat:Int)∧(((wKey t).toNat:Nat):Int)<s.c.keys)∧(t.prev≠0→lnkA s t=2+3*s.c.th+s.c.keys+3*(ix t.prev:Int)+2∧(ix t.prev:Int)<s.c.cap):=by
 have hk:=Vq T h0
 unfold lkv
 by_cases hp:t.prev=0
 ·obtain ⟨e1,e2,e3,e4,e5,e6⟩:=H.hdb hk.1 hk.2
  rw [Zq hp,Zp hp,if_pos hp]
  exact ⟨rfl,⟨e2,e3⟩,e6,fun _=>⟨e1,e5⟩,fun h=>absurd hp h⟩
 ·have hm:isMk t.prev=false:=by
   have:=T.pv;have e:=Xzx (h:=t.prev);rwa [X2o this] at e
  obtain ⟨e1,e2,e3,e4⟩:=fx H (hc hp) hm (f:=2) (by omega)
  rw [Zi hp,Zh hp,if_neg hp]
  refine ⟨e4,e3,?_,fun h=>absurd h hp,fun _=>⟨e2,e1⟩⟩
  rw [e2,at_ol e1]
theorem lnk_mk {c:Cf} {h:Int} (hl:lnkB c h=true):isMk h=false:=by
 have e:=Xzx (h:=h);rwa [X2o hl] at e
theorem rs1 {s:Sta} {p:Nat} (H:CV s) (T:TV s.c (s.th p)) (hp:p<s.ths.length) (h:(s.th p).pc=1):RS s p (mm s) {s.th p with seen:=(mm s).ck,pc:=if (mm s).ck≥s.c.cm then 5 else 2} 0 0:=by
 have hb:=Xm H.cf
 have hlt:=H.lt
 have hpt:(p:Int)<s.c.th:=by omega
 have h0:(s.th p).pc≠0:=by rw [h];decide
 exact .id ((st1 h).trans (by unfold sk1;rfl))
theorem rs2 {s:Sta} {p:Nat} (H:CV s) (T:TV s.c (s.th p)) (hp:p<s.ths.length) (h:(s.th p).pc=2):RS s p {mm s with an:=upd (mm s).an p (s.th p).seen} {s.th p with pc:=3} (if (mm s).an p=(s.th p).seen then 0 else 1) 0:=by
 have hb:=Xm H.cf
 have hlt:=H.lt
 have hpt:(p:Int)<s.c.th:=by omega
 have h0:(s.th p).pc≠0:=by rw [h];decide
 obtain ⟨e1,e2,e3,e4⟩:=H.anb hpt
 refine .put ((st2 h).trans rfl) ⟨e2,e3⟩ ?_ ?_
 ·rw [e1];exact mm_an H hpt
 ·rw [e1];exact at_an hpt
theorem rs3 {s:Sta} {p:Nat} (H:CV s) (T:TV s.c (s.th p)) (hp:p<s.ths.length) (h:(s.th p).pc=3):RS s p (mm s) {s.th p with pc:=if (mm s).ck=(s.th p).seen then 4 else 1} 0 (if (mm s).ck=(s.th p).seen then 0 else 1):=by
 have hb:=Xm H.cf
 have hlt:=H.lt
 have hpt:(p:Int)<s.c.th:=by omega
 have h0:(s.th p).pc≠0:=by rw [h];decide
 have:=RS.rtr (s:=s) (p:=p) ((st3 h).trans rfl)
 simp only [decide_eq_true_eq] at this
 exact this
theorem rs4a {s:Sta} {p:Nat} (H:CV s) (T:TV s.c (s.th p)) (hp:p<s.ths.length) (h:(s.th p).pc=4) (hs:(mm s).ck=(s.th p).seen):RS s p {mm s with ck:=(s.th p).seen+1} (endT {s.th p with snap:=(s.th p).seen} ⟨0,0⟩) 1 0:=by
 have hb:=Xm H.cf
 have hlt:=H.lt
 have hpt:(p:Int)<s.c.th:=by omega
 have h0:(s.th p).pc≠0:=by rw [h];decide
 have hl:=H.lc
 have:=RS.put (s:=s) (p:=p) (a:=0) (v:=(s.th p).seen+1) (t:=endT {s.th p with snap:=(s.th p).seen} ⟨0,0⟩) ((st4 h).trans (by unfold sk4;rw [Un (by omega) hs])) (by omega) (mm_ck H) rfl
 rw [if_neg (by show ¬cl s 0=_;rw [clck];omega)] at this
 exact this
theorem rs4b {s:Sta} {p:Nat} (H:CV s) (T:TV s.c (s.th p)) (hp:p<s.ths.length) (h:(s.th p).pc=4) (hs:¬(mm s).ck=(s.th p).seen):RS s p (mm s) (endT {s.th p with snap:=(s.th p).seen} ⟨0,0⟩) 0 0:=by
 have hb:=Xm H.cf
 have hlt:=H.lt
 have hpt:(p:Int)<s.c.th:=by omega
 have h0:(s.th p).pc≠0:=by rw [h];decide
 exact .id ((st4 h).trans (by unfold sk4;rw [Xf2 hs]))
theorem rs5 {s:Sta} {p:Nat} (H:CV s) (T:TV s.c (s.th p)) (hp:p<s.ths.length) (h:(s.th p).pc=5):RS s p {mm s with an:=upd (mm s).an p 0} (endT (s.th p) ⟨5,0⟩) (if (mm s).an p=0 then 0 else 1) 0:=by
 have hb:=Xm H.cf
 have hlt:=H.lt
 have hpt:(p:Int)<s.c.th:=by omega
 have h0:(s.th p).pc≠0:=by rw [h];decide
 obtain ⟨e1,e2,e3,e4⟩:=H.anb hpt
 refine .put ((st5 h).trans rfl) ⟨e2,e3⟩ ?_ ?_
 ·rw [e1];exact mm_an H hpt
 ·rw [e1];exact at_an hpt
theorem rs10 {s:Sta} {p:Nat} (H:CV s) (T:TV s.c (s.th p)) (hp:p<s.ths.length) (h:(s.th p).pc=10):RS s p (mm s) (goOn {s.th p with prev:=0,curr:=unmk ((mm s).hd (wKey (s.th p)).toNat)}) 0 0:=by
 have hb:=Xm H.cf
 have hlt:=H.lt
 have hpt:(p:Int)<s.c.th:=by omega
 have h0:(s.th p).pc≠0:=by rw [h];decide
 have hk:=Vq T h0
 obtain ⟨e1,e2,e3,e4,e5,e6⟩:=H.hdb hk.1 hk.2
 exact .id ((st10 h).trans (by unfold sk10;rw [e4]))
theorem rs11 {s:Sta} {p:Nat} (H:CV s) (T:TV s.c (s.th p)) (hp:p<s.ths.length) (h:(s.th p).pc=11):RS s p {mm s with hz:=upd (mm s).hz (2*p+0) (s.th p).curr} {s.th p with pc:=12} (if (mm s).hz (2*p+0)=(s.th p).curr then 0 else 1) 0:=by
 have hb:=Xm H.cf
 have hlt:=H.lt
 have hpt:(p:Int)<s.c.th:=by omega
 have h0:(s.th p).pc≠0:=by rw [h];decide
 obtain ⟨e1,e2,e3,e4,e5⟩:=H.hzb (p:=p) (j:=0) hpt (by omega)
 refine .put ((st11 h).trans rfl) ⟨e2,e3⟩ ?_ ?_
 ·show mm (put s (hazB s.c p ((0:Nat):Int)) _)=_;rw [e1];exact mm_hz H e4
 ·show cl s (hazB s.c p ((0:Nat):Int))=_;rw [e1];exact at_hz e4
theorem rs12 {s:Sta} {p:Nat} (H:CV s) (T:TV s.c (s.th p)) (hp:p<s.ths.length) (h:(s.th p).pc=12) (hv:(s.th p).prev≠0→curB s (s.th p).prev=true):RS s p (mm s) {s.th p with pc:=if lkv (mm s) (s.th p)=(s.th p).curr then 13 else 10} 0 (if lkv (mm s) (s.th p)=(s.th p).curr then 0 else 1):=by
 have hb:=Xm H.cf
 have hlt:=H.lt
 have hpt:(p:Int)<s.c.th:=by omega
 have h0:(s.th p).pc≠0:=by rw [h];decide
 obtain ⟨l1,l2,l3,l4,l5⟩:=lk_at H T h0 hv
 have:=RS.rtr (s:=s) (p:=p) (b:=decide (lkv (mm s) (s.th p)=(s.th p).curr)) (t:={s.th p with pc:=if lkv (mm s) (s.th p)=(s.th p).curr then 13 else 10}) ((st12 h).trans (by unfold sk12;rw [l1,Zl l2,l3]))
 simp only [decide_eq_true_eq] at this
 exact this
theorem rs13 {s:Sta} {p:Nat} (H:CV s) (T:TV s.c (s.th p)) (hp:p<s.ths.length) (h:(s.th p).pc=13) (hc:curB s (s.th p).curr=true):RS s p (mm s) {s.th p with next:=(mm s).ol (ix (s.th p).curr),pc:=if isMk ((mm s).ol (ix (s.th p).curr))=true then 14 else if (s.th p).op.k=2 then 16 else 15} 0 0:=by
 have hb:=Xm H.cf
 have hlt:=H.lt
 have hpt:(p:Int)<s.c.th:=by omega
 have h0:(s.th p).pc≠0:=by rw [h];decide
 obtain ⟨f1,f2,f3,f4⟩:=fx H hc (lnk_mk T.cr) (f:=2) (by omega)
 have e:ld s (fldA s (s.th p).curr 2)=(mm s).ol (ix (s.th p).curr):=by rw [Zl f3,f2,at_ol f1]
 exact .id ((st13 h).trans (by unfold sk13;rw [e,f4]))
theorem rs14b {s:Sta} {p:Nat} (H:CV s) (T:TV s.c (s.th p)) (hp:p<s.ths.length) (h:(s.th p).pc=14) (hv:(s.th p).prev≠0→curB s (s.th p).prev=true) (hs:lkv (mm s) (s.th p)=(s.th p).curr) (hz:(s.th p).prev≠0):RS s p {mm s with ol:=upd (mm s).ol (ix (s.th p).prev) (unmk (s.th p).next)} (goOn {s.th p with curr:=unmk (s.th p).next}) (if (s.th p).curr=unmk (s.th p).next then 0 else 1) 0:=by
 have hb:=Xm H.cf
 have hlt:=H.lt
 have hpt:(p:Int)<s.c.th:=by omega
 have h0:(s.th p).pc≠0:=by rw [h];decide
 obtain ⟨l1,l2,l3,l4,l5⟩:=lk_at H T h0 hv
 refine .put ((st14 h).trans (by unfold sk14;rw [if_pos (Yl l2 (l3.trans hs)),l1])) l2 ?_ (l3.trans hs)
 rw [(l5 hz).1];exact mm_ol H (l5 hz).2
theorem rs14c {s:Sta} {p:Nat} (H:CV s) (T:TV s.c (s.th p)) (hp:p<s.ths.length) (h:(s.th p).pc=14) (hv:(s.th p).prev≠0→curB s (s.th p).prev=true) (hs:¬lkv (mm s) (s.th p)=(s.th p).curr):RS s p (mm s) {s.th p with pc:=10} 0 1:=by
 have hb:=Xm H.cf
 have hlt:=H.lt
 have hpt:(p:Int)<s.c.th:=by omega
 have h0:(s.th p).pc≠0:=by rw [h];decide
 obtain ⟨l1,l2,l3,l4,l5⟩:=lk_at H T h0 hv
 exact .rtr (b:=false) ((st14 h).trans (by unfold sk14;rw [if_neg (Xdk (by rw [l3];exact hs)),l1]))
theorem rs15 {s:Sta} {p:Nat} (H:CV s) (T:TV s.c (s.th p)) (hp:p<s.ths.length) (h:(s.th p).pc=15):RS s p {mm s with hz:=upd (mm s).hz (2*p+1) (s.th p).curr} (goOn {s.th p with prev:=(s.th p).curr,curr:=unmk (s.th p).next}) (if (mm s).hz (2*p+1)=(s.th p).curr then 0 else 1) 0:=by
 have hb:=Xm H.cf
 have hlt:=H.lt
 have hpt:(p:Int)<s.c.th:=by omega
 have h0:(s.th p).pc≠0:=by rw [h];decide
 obtain ⟨e1,e2,e3,e4,e5⟩:=H.hzb (p:=p) (j:=1) hpt (by omega)
 refine .put ((st15 h).trans rfl) ⟨e2,e3⟩ ?_ ?_
 ·show mm (put s (hazB s.c p ((1:Nat):Int)) _)=_;rw [e1];exact mm_hz H e4
 ·show cl s (hazB s.c p ((1:Nat):Int))=_;rw [e1];exact at_hz e4
theorem rs16 {s:Sta} {p:Nat} (H:CV s) (T:TV s.c (s.th p)) (hp:p<s.ths.length) (h:(s.th p).pc=16) (hc:curB s (s.th p).curr=true):RS s p (mm s) {s.th p with stamp:=(mm s).st (ix (s.th p).curr),pc:=if (mm s).st (ix (s.th p).curr)=0 then 17 else if (mm s).st (ix (s.th p).curr)≤(s.th p).snap then 19 else 15} 0 0:=by
 have hb:=Xm H.cf
 have hlt:=H.lt
 have hpt:(p:Int)<s.c.th:=by omega
 have h0:(s.th p).pc≠0:=by rw [h];decide
 obtain ⟨f1,f2,f3,f4⟩:=fx H hc (lnk_mk T.cr) (f:=0) (by omega)
 have e:ld s (fldA s (s.th p).curr 0)=(mm s).st (ix (s.th p).curr):=by rw [Zl f3,f2,Int.add_zero,at_st f1]
 exact .id ((st16 h).trans (by unfold sk16;rw [e,f4]))
theorem rs17 {s:Sta} {p:Nat} (H:CV s) (T:TV s.c (s.th p)) (hp:p<s.ths.length) (h:(s.th p).pc=17):RS s p (mm s) {s.th p with seen:=(mm s).ck,pc:=18} 0 0:=by
 have hb:=Xm H.cf
 have hlt:=H.lt
 have hpt:(p:Int)<s.c.th:=by omega
 have h0:(s.th p).pc≠0:=by rw [h];decide
 exact .id ((st17 h).trans (by unfold sk17;rfl))
theorem rs18a {s:Sta} {p:Nat} (H:CV s) (T:TV s.c (s.th p)) (hp:p<s.ths.length) (h:(s.th p).pc=18) (hc:curB s (s.th p).curr=true) (hs:(mm s).st (ix (s.th p).curr)=0):RS s p {mm s with st:=upd (mm s).st (ix (s.th p).curr) (s.th p).seen} {s.th p with pc:=16} (if 0=(s.th p).seen then 0 else 1) 0:=by
 have hb:=Xm H.cf
 have hlt:=H.lt
 have hpt:(p:Int)<s.c.th:=by omega
 have h0:(s.th p).pc≠0:=by rw [h];decide
 obtain ⟨f1,f2,f3,f4⟩:=fx H hc (lnk_mk T.cr) (f:=0) (by omega)
 have e:cl s (fldA s (s.th p).curr 0)=0:=by rw [f2,Int.add_zero,at_st f1,hs]
 refine .put ((st18 h).trans (by unfold sk18;rw [f4,Un f3 e])) f3 ?_ e
 rw [f2,Int.add_zero];exact mm_st H f1
theorem rs18b {s:Sta} {p:Nat} (H:CV s) (T:TV s.c (s.th p)) (hp:p<s.ths.length) (h:(s.th p).pc=18) (hc:curB s (s.th p).curr=true) (hs:¬(mm s).st (ix (s.th p).curr)=0):RS s p (mm s) {s.th p with pc:=16} 0 0:=by
 have hb:=Xm H.cf
 have hlt:=H.lt
 have hpt:(p:Int)<s.c.th:=by omega
 have h0:(s.th p).pc≠0:=by rw [h];decide
 obtain ⟨f1,f2,f3,f4⟩:=fx H hc (lnk_mk T.cr) (f:=0) (by omega)
 have e:¬cl s (fldA s (s.th p).curr 0)=0:=by rw [f2,Int.add_zero,at_st f1];exact hs
 exact .id ((st18 h).trans (by unfold sk18;rw [f4,Xf2 e]))
theorem rs19 {s:Sta} {p:Nat} (H:CV s) (T:TV s.c (s.th p)) (hp:p<s.ths.length) (h:(s.th p).pc=19) (hc:curB s (s.th p).curr=true):RS s p (mm s) {s.th p with res:=⟨0,(mm s).vl (ix (s.th p).curr)⟩,pc:=20} 0 0:=by
 have hb:=Xm H.cf
 have hlt:=H.lt
 have hpt:(p:Int)<s.c.th:=by omega
 have h0:(s.th p).pc≠0:=by rw [h];decide
 obtain ⟨f1,f2,f3,f4⟩:=fx H hc (lnk_mk T.cr) (f:=1) (by omega)
 have e:ld s (fldA s (s.th p).curr 1)=(mm s).vl (ix (s.th p).curr):=by rw [Zl f3,f2,at_vl f1]
 exact .id ((st19 h).trans (by unfold sk19;rw [e,f4]))
theorem rs20 {s:Sta} {p:Nat} (H:CV s) (T:TV s.c (s.th p)) (hp:p<s.ths.length) (h:(s.th p).pc=20):RS s p {mm s with hz:=upd (mm s).hz (2*p+0) 0} {s.th p with pc:=21} (if (mm s).hz (2*p+0)=0 then 0 else 1) 0:=by
 have hb:=Xm H.cf
 have hlt:=H.lt
 have hpt:(p:Int)<s.c.th:=by omega
 have h0:(s.th p).pc≠0:=by rw [h];decide
 obtain ⟨e1,e2,e3,e4,e5⟩:=H.hzb (p:=p) (j:=0) hpt (by omega)
 refine .put ((st20 h).trans rfl) ⟨e2,e3⟩ ?_ ?_
 ·show mm (put s (hazB s.c p ((0:Nat):Int)) _)=_;rw [e1];exact mm_hz H e4
 ·show cl s (hazB s.c p ((0:Nat):Int))=_;rw [e1];exact at_hz e4
theorem rs21 {s:Sta} {p:Nat} (H:CV s) (T:TV s.c (s.th p)) (hp:p<s.ths.length) (h:(s.th p).pc=21):RS s p {mm s with hz:=upd (mm s).hz (2*p+1) 0} (endT (s.th p) (s.th p).res) (if (mm s).hz (2*p+1)=0 then 0 else 1) 0:=by
 have hb:=Xm H.cf
 have hlt:=H.lt
 have hpt:(p:Int)<s.c.th:=by omega
 have h0:(s.th p).pc≠0:=by rw [h];decide
 obtain ⟨e1,e2,e3,e4,e5⟩:=H.hzb (p:=p) (j:=1) hpt (by omega)
 refine .put ((st21 h).trans rfl) ⟨e2,e3⟩ ?_ ?_
 ·show mm (put s (hazB s.c p ((1:Nat):Int)) _)=_;rw [e1];exact mm_hz H e4
 ·show cl s (hazB s.c p ((1:Nat):Int))=_;rw [e1];exact at_hz e4
theorem rs30a {s:Sta} {p:Nat} (H:CV s) (T:TV s.c (s.th p)) (hp:p<s.ths.length) (h:(s.th p).pc=30) (hs:(mm s).ar≥s.c.cap):RS s p (mm s) (endT (s.th p) ⟨2,0⟩) 0 0:=by
 have hb:=Xm H.cf
 have hlt:=H.lt
 have hpt:(p:Int)<s.c.th:=by omega
 have h0:(s.th p).pc≠0:=by rw [h];decide
 exact .id ((st30 h).trans (by unfold sk30;rw [clar,if_pos hs]))
theorem rs30b {s:Sta} {p:Nat} (H:CV s) (T:TV s.c (s.th p)) (hp:p<s.ths.length) (h:(s.th p).pc=30) (hs:¬(mm s).ar≥s.c.cap):RS s p (mm s) {s.th p with seen:=(mm s).ar,pc:=31} 0 0:=by
 have hb:=Xm H.cf
 have hlt:=H.lt
 have hpt:(p:Int)<s.c.th:=by omega
 have h0:(s.th p).pc≠0:=by rw [h];decide
 exact .id ((st30 h).trans (by unfold sk30;rw [clar,if_neg hs]))
theorem rs31a {s:Sta} {p:Nat} (H:CV s) (T:TV s.c (s.th p)) (hp:p<s.ths.length) (h:(s.th p).pc=31) (hs:(mm s).ar=(s.th p).seen):RS s p {mm s with ar:=(s.th p).seen+1} {s.th p with node:=mkH (s.th p).seen ((mm s).gn (s.th p).seen.toNat),pc:=32} 1 0:=by
 have hb:=Xm H.cf
 have hlt:=H.lt
 have hpt:(p:Int)<s.c.th:=by omega
 have h0:(s.th p).pc≠0:=by rw [h];decide
 have hl:=H.lc
 have:=RS.put (s:=s) (p:=p) (a:=1) (v:=(s.th p).seen+1) (t:={s.th p with node:=mkH (s.th p).seen ((mm s).gn (s.th p).seen.toNat),pc:=32}) ((st31 h).trans (by unfold sk31;rw [clar,if_pos hs];rfl)) (by omega) (mm_ar H) rfl
 rw [if_neg (by show ¬cl s 1=_;rw [clar];omega)] at this
 exact this
theorem rs31b {s:Sta} {p:Nat} (H:CV s) (T:TV s.c (s.th p)) (hp:p<s.ths.length) (h:(s.th p).pc=31) (hs:¬(mm s).ar=(s.th p).seen):RS s p (mm s) {s.th p with pc:=30} 0 1:=by
 have hb:=Xm H.cf
 have hlt:=H.lt
 have hpt:(p:Int)<s.c.th:=by omega
 have h0:(s.th p).pc≠0:=by rw [h];decide
 exact .rtr (b:=false) ((st31 h).trans (by unfold sk31;rw [clar,if_neg hs]))
theorem rs32 {s:Sta} {p:Nat} (H:CV s) (T:TV s.c (s.th p)) (hp:p<s.ths.length) (h:(s.th p).pc=32) (hc:curB s (s.th p).node=true):RS s p {mm s with vl:=upd (mm s).vl (ix (s.th p).node) (s.th p).op.v} {s.th p with pc:=33} (if (mm s).vl (ix (s.th p).node)=(s.th p).op.v then 0 else 1) 0:=by
 have hb:=Xm H.cf
 have hlt:=H.lt
 have hpt:(p:Int)<s.c.th:=by omega
 have h0:(s.th p).pc≠0:=by rw [h];decide
 obtain ⟨f1,f2,f3,f4⟩:=fx H hc (lnk_mk T.nd) (f:=1) (by omega)
 refine .put ((st32 h).trans (by unfold sk32;rw [f4])) f3 ?_ ?_
 ·rw [f2];exact mm_vl H f1
 ·rw [f2];exact at_vl f1
theorem rs33 {s:Sta} {p:Nat} (H:CV s) (T:TV s.c (s.th p)) (hp:p<s.ths.length) (h:(s.th p).pc=33) (hc:curB s (s.th p).node=true):RS s p {mm s with st:=upd (mm s).st (ix (s.th p).node) 0} {s.th p with pc:=34} (if (mm s).st (ix (s.th p).node)=0 then 0 else 1) 0:=by
 have hb:=Xm H.cf
 have hlt:=H.lt
 have hpt:(p:Int)<s.c.th:=by omega
 have h0:(s.th p).pc≠0:=by rw [h];decide
 obtain ⟨f1,f2,f3,f4⟩:=fx H hc (lnk_mk T.nd) (f:=0) (by omega)
 refine .put ((st33 h).trans (by unfold sk33;rw [f4])) f3 ?_ ?_
 ·rw [f2,Int.add_zero];exact mm_st H f1
 ·rw [f2,Int.add_zero];exact at_st f1
theorem rs34 {s:Sta} {p:Nat} (H:CV s) (T:TV s.c (s.th p)) (hp:p<s.ths.length) (h:(s.th p).pc=34):RS s p {mm s with hz:=upd (mm s).hz (2*p+1) (s.th p).node} {s.th p with pc:=35} (if (mm s).hz (2*p+1)=(s.th p).node then 0 else 1) 0:=by
 have hb:=Xm H.cf
 have hlt:=H.lt
 have hpt:(p:Int)<s.c.th:=by omega
 have h0:(s.th p).pc≠0:=by rw [h];decide
 obtain ⟨e1,e2,e3,e4,e5⟩:=H.hzb (p:=p) (j:=1) hpt (by omega)
 refine .put ((st34 h).trans rfl) ⟨e2,e3⟩ ?_ ?_
 ·show mm (put s (hazB s.c p ((1:Nat):Int)) _)=_;rw [e1];exact mm_hz H e4
 ·show cl s (hazB s.c p ((1:Nat):Int))=_;rw [e1];exact at_hz e4
theorem rs35 {s:Sta} {p:Nat} (H:CV s) (T:TV s.c (s.th p)) (hp:p<s.ths.length) (h:(s.th p).pc=35):RS s p (mm s) {s.th p with curr:=unmk ((mm s).hd (s.th p).op.key.toNat),pc:=if unmk ((mm s).hd (s.th p).op.key.toNat)=0 then 41 else 36} 0 0:=by
 have hb:=Xm H.cf
 have hlt:=H.lt
 have hpt:(p:Int)<s.c.th:=by omega
 have h0:(s.th p).pc≠0:=by rw [h];decide
 have hk:=Vu T h0
 obtain ⟨e1,e2,e3,e4,e5,e6⟩:=H.hdb hk.1 hk.2.1
 exact .id ((st35 h).trans (by unfold sk35;rw [e4]))
theorem rs36 {s:Sta} {p:Nat} (H:CV s) (T:TV s.c (s.th p)) (hp:p<s.ths.length) (h:(s.th p).pc=36):RS s p {mm s with hz:=upd (mm s).hz (2*p+0) (s.th p).curr} {s.th p with pc:=37} (if (mm s).hz (2*p+0)=(s.th p).curr then 0 else 1) 0:=by
 have hb:=Xm H.cf
 have hlt:=H.lt
 have hpt:(p:Int)<s.c.th:=by omega
 have h0:(s.th p).pc≠0:=by rw [h];decide
 obtain ⟨e1,e2,e3,e4,e5⟩:=H.hzb (p:=p) (j:=0) hpt (by omega)
 refine .put ((st36 h).trans rfl) ⟨e2,e3⟩ ?_ ?_
 ·show mm (put s (hazB s.c p ((0:Nat):Int)) _)=_;rw [e1];exact mm_hz H e4
 ·show cl s (hazB s.c p ((0:Nat):Int))=_;rw [e1];exact at_hz e4
theorem rs37 {s:Sta} {p:Nat} (H:CV s) (T:TV s.c (s.th p)) (hp:p<s.ths.length) (h:(s.th p).pc=37):RS s p (mm s) {s.th p with pc:=if (mm s).hd (s.th p).op.key.toNat=(s.th p).curr then 38 else 35} 0 (if (mm s).hd (s.th p).op.key.toNat=(s.th p).curr then 0 else 1):=by
 have hb:=Xm H.cf
 have hlt:=H.lt
 have hpt:(p:Int)<s.c.th:=by omega
 have h0:(s.th p).pc≠0:=by rw [h];decide
 have hk:=Vu T h0
 obtain ⟨e1,e2,e3,e4,e5,e6⟩:=H.hdb hk.1 hk.2.1
 have:=RS.rtr (s:=s) (p:=p) (b:=decide ((mm s).hd (s.th p).op.key.toNat=(s.th p).curr)) (t:={s.th p with pc:=if (mm s).hd (s.th p).op.key.toNat=(s.th p).curr then 38 else 35}) ((st37 h).trans (by unfold sk37;rw [e4]))
 simp only [decide_eq_true_eq] at this
 exact this
theorem rs38 {s:Sta} {p:Nat} (H:CV s) (T:TV s.c (s.th p)) (hp:p<s.ths.length) (h:(s.th p).pc=38) (hc:curB s (s.th p).curr=true):RS s p (mm s) {s.th p with stamp:=(mm s).st (ix (s.th p).curr),pc:=if (mm s).st (ix (s.th p).curr)=0 then 39 else 41} 0 0:=by
 have hb:=Xm H.cf
 have hlt:=H.lt
 have hpt:(p:Int)<s.c.th:=by omega
 have h0:(s.th p).pc≠0:=by rw [h];decide
 obtain ⟨f1,f2,f3,f4⟩:=fx H hc (lnk_mk T.cr) (f:=0) (by omega)
 have e:ld s (fldA s (s.th p).curr 0)=(mm s).st (ix (s.th p).curr):=by rw [Zl f3,f2,Int.add_zero,at_st f1]
 exact .id ((st38 h).trans (by unfold sk38;rw [e,f4]))
theorem rs39 {s:Sta} {p:Nat} (H:CV s) (T:TV s.c (s.th p)) (hp:p<s.ths.length) (h:(s.th p).pc=39):RS s p (mm s) {s.th p with seen:=(mm s).ck,pc:=40} 0 0:=by
 have hb:=Xm H.cf
 have hlt:=H.lt
 have hpt:(p:Int)<s.c.th:=by omega
 have h0:(s.th p).pc≠0:=by rw [h];decide
 exact .id ((st39 h).trans (by unfold sk39;rfl))
theorem rs40a {s:Sta} {p:Nat} (H:CV s) (T:TV s.c (s.th p)) (hp:p<s.ths.length) (h:(s.th p).pc=40) (hc:curB s (s.th p).curr=true) (hs:(mm s).st (ix (s.th p).curr)=0):RS s p {mm s with st:=upd (mm s).st (ix (s.th p).curr) (s.th p).seen} {s.th p with pc:=38} (if 0=(s.th p).seen then 0 else 1) 0:=by
 have hb:=Xm H.cf
 have hlt:=H.lt
 have hpt:(p:Int)<s.c.th:=by omega
 have h0:(s.th p).pc≠0:=by rw [h];decide
 obtain ⟨f1,f2,f3,f4⟩:=fx H hc (lnk_mk T.cr) (f:=0) (by omega)
 have e:cl s (fldA s (s.th p).curr 0)=0:=by rw [f2,Int.add_zero,at_st f1,hs]
 refine .put ((st40 h).trans (by unfold sk40;rw [f4,Un f3 e])) f3 ?_ e
 rw [f2,Int.add_zero];exact mm_st H f1
theorem rs40b {s:Sta} {p:Nat} (H:CV s) (T:TV s.c (s.th p)) (hp:p<s.ths.length) (h:(s.th p).pc=40) (hc:curB s (s.th p).curr=true) (hs:¬(mm s).st (ix (s.th p).curr)=0):RS s p (mm s) {s.th p with pc:=38} 0 0:=by
 have hb:=Xm H.cf
 have hlt:=H.lt
 have hpt:(p:Int)<s.c.th:=by omega
 have h0:(s.th p).pc≠0:=by rw [h];decide
 obtain ⟨f1,f2,f3,f4⟩:=fx H hc (lnk_mk T.cr) (f:=0) (by omega)
 have e:¬cl s (fldA s (s.th p).curr 0)=0:=by rw [f2,Int.add_zero,at_st f1];exact hs
 exact .id ((st40 h).trans (by unfold sk40;rw [f4,Xf2 e]))
theorem rs41 {s:Sta} {p:Nat} (H:CV s) (T:TV s.c (s.th p)) (hp:p<s.ths.length) (h:(s.th p).pc=41) (hc:curB s (s.th p).node=true):RS s p {mm s with ol:=upd (mm s).ol (ix (s.th p).node) (s.th p).curr} {s.th p with pc:=42} (if (mm s).ol (ix (s.th p).node)=(s.th p).curr then 0 else 1) 0:=by
 have hb:=Xm H.cf
 have hlt:=H.lt
 have hpt:(p:Int)<s.c.th:=by omega
 have h0:(s.th p).pc≠0:=by rw [h];decide
 obtain ⟨f1,f2,f3,f4⟩:=fx H hc (lnk_mk T.nd) (f:=2) (by omega)
 refine .put ((st41 h).trans (by unfold sk41;rw [f4])) f3 ?_ ?_
 ·rw [f2];exact mm_ol H f1
 ·rw [f2];exact at_ol f1
theorem rs42a {s:Sta} {p:Nat} (H:CV s) (T:TV s.c (s.th p)) (hp:p<s.ths.length) (h:(s.th p).pc=42) (hs:(mm s).hd (s.th p).op.key.toNat=(s.th p).curr):RS s p {mm s with hd:=upd (mm s).hd (s.th p).op.key.toNat (s.th p).node} {s.th p with pc:=43} (if (s.th p).curr=(s.th p).node then 0 else 1) 0:=by
 have hb:=Xm H.cf
 have hlt:=H.lt
 have hpt:(p:Int)<s.c.th:=by omega
 have h0:(s.th p).pc≠0:=by rw [h];decide
 have hk:=Vu T h0
 obtain ⟨e1,e2,e3,e4,e5,e6⟩:=H.hdb hk.1 hk.2.1
 refine .put ((st42 h).trans (by unfold sk42;rw [if_pos (Yl ⟨e2,e3⟩ (e6.trans hs))])) ⟨e2,e3⟩ ?_ (e6.trans hs)
 rw [e1];exact mm_hd H e5
theorem rs42b {s:Sta} {p:Nat} (H:CV s) (T:TV s.c (s.th p)) (hp:p<s.ths.length) (h:(s.th p).pc=42) (hs:¬(mm s).hd (s.th p).op.key.toNat=(s.th p).curr):RS s p (mm s) {s.th p with pc:=35} 0 1:=by
 have hb:=Xm H.cf
 have hlt:=H.lt
 have hpt:(p:Int)<s.c.th:=by omega
 have h0:(s.th p).pc≠0:=by rw [h];decide
 have hk:=Vu T h0
 obtain ⟨e1,e2,e3,e4,e5,e6⟩:=H.hdb hk.1 hk.2.1
 exact .rtr (b:=false) ((st42 h).trans (by unfold sk42;rw [if_neg (Xdk (by rw [e6];exact hs))]))
theorem rs43 {s:Sta} {p:Nat} (H:CV s) (T:TV s.c (s.th p)) (hp:p<s.ths.length) (h:(s.th p).pc=43):RS s p (mm s) {s.th p with seen:=(mm s).ck,pc:=44} 0 0:=by
 have hb:=Xm H.cf
 have hlt:=H.lt
 have hpt:(p:Int)<s.c.th:=by omega
 have h0:(s.th p).pc≠0:=by rw [h];decide
 exact .id ((st43 h).trans (by unfold sk43;rfl))
theorem rs44a {s:Sta} {p:Nat} (H:CV s) (T:TV s.c (s.th p)) (hp:p<s.ths.length) (h:(s.th p).pc=44) (hc:curB s (s.th p).node=true) (hs:(mm s).st (ix (s.th p).node)=0):RS s p {mm s with st:=upd (mm s).st (ix (s.th p).node) (s.th p).seen} {s.th p with pc:=45} (if 0=(s.th p).seen then 0 else 1) 0:=by
 have hb:=Xm H.cf
 have hlt:=H.lt
 have hpt:(p:Int)<s.c.th:=by omega
 have h0:(s.th p).pc≠0:=by rw [h];decide
 obtain ⟨f1,f2,f3,f4⟩:=fx H hc (lnk_mk T.nd) (f:=0) (by omega)
 have e:cl s (fldA s (s.th p).node 0)=0:=by rw [f2,Int.add_zero,at_st f1,hs]
 refine .put ((st44 h).trans (by unfold sk44;rw [f4,Un f3 e])) f3 ?_ e
 rw [f2,Int.add_zero];exact mm_st H f1
theorem rs44b {s:Sta} {p:Nat} (H:CV s) (T:TV s.c (s.th p)) (hp:p<s.ths.length) (h:(s.th p).pc=44) (hc:curB s (s.th p).node=true) (hs:¬(mm s).st (ix (s.th p).node)=0):RS s p (mm s) {s.th p with pc:=45} 0 0:=by
 have hb:=Xm H.cf
 have hlt:=H.lt
 have hpt:(p:Int)<s.c.th:=by omega
 have h0:(s.th p).pc≠0:=by rw [h];decide
 obtain ⟨f1,f2,f3,f4⟩:=fx H hc (lnk_mk T.nd) (f:=0) (by omega)
 have e:¬cl s (fldA s (s.th p).node 0)=0:=by rw [f2,Int.add_zero,at_st f1];exact hs
 exact .id ((st44 h).trans (by unfold sk44;rw [f4,Xf2 e]))
theorem rs45 {s:Sta} {p:Nat} (H:CV s) (T:TV s.c (s.th p)) (hp:p<s.ths.length) (h:(s.th p).pc=45) (hc:curB s (s.th p).node=true):RS s p (mm s) {s.th p with buf:=if (s.th p).curr≠0∧Zt ⟨(s.th p).curr,(s.th p).op.key,(s.th p).stamp,(mm s).st (ix (s.th p).node)⟩=true∧(s.th p).buf.length<100 then (s.th p).buf++[⟨(s.th p).curr,(s.th p).op.key,(s.th p).stamp,(mm s).st (ix (s.th p).node)⟩] else (s.th p).buf,pc:=46} 0 0:=by
 have hb:=Xm H.cf
 have hlt:=H.lt
 have hpt:(p:Int)<s.c.th:=by omega
 have h0:(s.th p).pc≠0:=by rw [h];decide
 obtain ⟨f1,f2,f3,f4⟩:=fx H hc (lnk_mk T.nd) (f:=0) (by omega)
 have e:ld s (fldA s (s.th p).node 0)=(mm s).st (ix (s.th p).node):=by rw [Zl f3,f2,Int.add_zero,at_st f1]
 exact .id ((st45 h).trans (by unfold sk45;rw [e,f4]))
theorem rs46 {s:Sta} {p:Nat} (H:CV s) (T:TV s.c (s.th p)) (hp:p<s.ths.length) (h:(s.th p).pc=46):RS s p {mm s with hz:=upd (mm s).hz (2*p+0) 0} {s.th p with pc:=47} (if (mm s).hz (2*p+0)=0 then 0 else 1) 0:=by
 have hb:=Xm H.cf
 have hlt:=H.lt
 have hpt:(p:Int)<s.c.th:=by omega
 have h0:(s.th p).pc≠0:=by rw [h];decide
 obtain ⟨e1,e2,e3,e4,e5⟩:=H.hzb (p:=p) (j:=0) hpt (by omega)
 refine .put ((st46 h).trans rfl) ⟨e2,e3⟩ ?_ ?_
 ·show mm (put s (hazB s.c p ((0:Nat):Int)) _)=_;rw [e1];exact mm_hz H e4
 ·show cl s (hazB s.c p ((0:Nat):Int))=_;rw [e1];exact at_hz e4
theorem rs47 {s:Sta} {p:Nat} (H:CV s) (T:TV s.c (s.th p)) (hp:p<s.ths.length) (h:(s.th p).pc=47):RS s p {mm s with hz:=upd (mm s).hz (2*p+1) 0} (if Xin s.c (s.th p)=true then {clr (s.th p) with pc:=50} else endT (s.th p) ⟨0,0⟩) (if (mm s).hz (2*p+1)=0 then 0 else 1) 0:=by
 have hb:=Xm H.cf
 have hlt:=H.lt
 have hpt:(p:Int)<s.c.th:=by omega
 have h0:(s.th p).pc≠0:=by rw [h];decide
 obtain ⟨e1,e2,e3,e4,e5⟩:=H.hzb (p:=p) (j:=1) hpt (by omega)
 refine .put ((st47 h).trans rfl) ⟨e2,e3⟩ ?_ ?_
 ·show mm (put s (hazB s.c p ((1:Nat):Int)) _)=_;rw [e1];exact mm_hz H e4
 ·show cl s (hazB s.c p ((1:Nat):Int))=_;rw [e1];exact at_hz e4
theorem rs50a {s:Sta} {p:Nat} (H:CV s) (T:TV s.c (s.th p)) (hp:p<s.ths.length) (h:(s.th p).pc=50) (hs:(s.th p).pos+1<s.c.th):RS s p (mm s) {s.th p with found:=fndT (s.th p) ((mm s).an (s.th p).pos.toNat),pos:=(s.th p).pos+1} 0 0:=by
 have hb:=Xm H.cf
 have hlt:=H.lt
 have hpt:(p:Int)<s.c.th:=by omega
 have h0:(s.th p).pc≠0:=by rw [h];decide
 have q:=T.p5 h
 obtain ⟨e1,e2,e3,e4⟩:=H.anb (j:=(s.th p).pos.toNat) (by omega)
 rw [show (((s.th p).pos.toNat:Nat):Int)=(s.th p).pos by omega] at e4
 exact .id ((st50 h).trans (by unfold sk50;rw [if_pos hs,e4]))
def scn (c:Cf) (t:Th) (f:List Int):Th :=
 let key:=if t.op.k=5 then -1 else t.op.key
 {t with found:=f,pos:=t.pos+1,buf:=t.buf.filter fun e=>!drpB c.p key f e,work:=t.work++t.buf.filter fun e=>drpB c.p key f e,pc:=60}
def scnE (c:Cf) (t:Th) (f:List Int):Th:=if (scn c t f).work.length=0 then fin c (scn c t f) else scn c t f
theorem rs50b {s:Sta} {p:Nat} (H:CV s) (T:TV s.c (s.th p)) (hp:p<s.ths.length) (h:(s.th p).pc=50) (hs:¬(s.th p).pos+1<s.c.th):RS s p (mm s) (scnE s.c (s.th p) (fndT (s.th p) ((mm s).an (s.th p).pos.toNat))) 0 0:=by
 have hb:=Xm H.cf
 have hlt:=H.lt
 have hpt:(p:Int)<s.c.th:=by omega
 have h0:(s.th p).pc≠0:=by rw [h];decide
 have q:=T.p5 h
 obtain ⟨e1,e2,e3,e4⟩:=H.anb (j:=(s.th p).pos.toNat) (by omega)
 rw [show (((s.th p).pos.toNat:Nat):Int)=(s.th p).pos by omega] at e4
 exact .id ((st50 h).trans (by unfold sk50;rw [if_neg hs,e4];rfl))
theorem rs60 {s:Sta} {p:Nat} (H:CV s) (T:TV s.c (s.th p)) (hp:p<s.ths.length) (h:(s.th p).pc=60) (hc:curB s ((s.th p).work.headD default).h=true) (hw:isMk ((s.th p).work.headD default).h=false):RS s p (mm s) {s.th p with seen:=(mm s).ol (ix ((s.th p).work.headD default).h),pc:=61} 0 0:=by
 have hb:=Xm H.cf
 have hlt:=H.lt
 have hpt:(p:Int)<s.c.th:=by omega
 have h0:(s.th p).pc≠0:=by rw [h];decide
 obtain ⟨f1,f2,f3,f4⟩:=fx H hc hw (f:=2) (by omega)
 have e:ld s (fldA s ((s.th p).work.headD default).h 2)=(mm s).ol (ix ((s.th p).work.headD default).h):=by rw [Zl f3,f2,at_ol f1]
 exact .id ((st60 h).trans (by unfold sk60;rw [e,f4]))
theorem rs61a {s:Sta} {p:Nat} (H:CV s) (T:TV s.c (s.th p)) (hp:p<s.ths.length) (h:(s.th p).pc=61) (hc:curB s ((s.th p).work.headD default).h=true) (hw:isMk ((s.th p).work.headD default).h=false) (hs:(mm s).ol (ix ((s.th p).work.headD default).h)=(s.th p).seen):RS s p {mm s with ol:=upd (mm s).ol (ix ((s.th p).work.headD default).h) (mrk (s.th p).seen)} {s.th p with pc:=10} (if (s.th p).seen=mrk (s.th p).seen then 0 else 1) 0:=by
 have hb:=Xm H.cf
 have hlt:=H.lt
 have hpt:(p:Int)<s.c.th:=by omega
 have h0:(s.th p).pc≠0:=by rw [h];decide
 obtain ⟨f1,f2,f3,f4⟩:=fx H hc hw (f:=2) (by omega)
 have e:cl s (fldA s ((s.th p).work.headD default).h 2)=(s.th p).seen:=by rw [f2,at_ol f1,hs]
 refine .put ((st61 h).trans (by unfold sk61;rw [if_pos (Yl f3 e)])) f3 ?_ e
 rw [f2];exact mm_ol H f1
theorem rs61b {s:Sta} {p:Nat} (H:CV s) (T:TV s.c (s.th p)) (hp:p<s.ths.length) (h:(s.th p).pc=61) (hc:curB s ((s.th p).work.headD default).h=true) (hw:isMk ((s.th p).work.headD default).h=false) (hs:¬(mm s).ol (ix ((s.th p).work.headD default).h)=(s.th p).seen):RS s p (mm s) {s.th p with pc:=60} 0 1:=by
 have hb:=Xm H.cf
 have hlt:=H.lt
 have hpt:(p:Int)<s.c.th:=by omega
 have h0:(s.th p).pc≠0:=by rw [h];decide
 obtain ⟨f1,f2,f3,f4⟩:=fx H hc hw (f:=2) (by omega)
 have e:¬cl s (fldA s ((s.th p).work.headD default).h 2)=(s.th p).seen:=by rw [f2,at_ol f1];exact hs
 exact .rtr (b:=false) ((st61 h).trans (by unfold sk61;rw [if_neg (Xdk e),f4]))
theorem rs62 {s:Sta} {p:Nat} (H:CV s) (T:TV s.c (s.th p)) (hp:p<s.ths.length) (h:(s.th p).pc=62):RS s p {mm s with hz:=upd (mm s).hz (2*p+0) 0} {s.th p with pc:=63} (if (mm s).hz (2*p+0)=0 then 0 else 1) 0:=by
 have hb:=Xm H.cf
 have hlt:=H.lt
 have hpt:(p:Int)<s.c.th:=by omega
 have h0:(s.th p).pc≠0:=by rw [h];decide
 obtain ⟨e1,e2,e3,e4,e5⟩:=H.hzb (p:=p) (j:=0) hpt (by omega)
 refine .put ((st62 h).trans rfl) ⟨e2,e3⟩ ?_ ?_
 ·show mm (put s (hazB s.c p ((0:Nat):Int)) _)=_;rw [e1];exact mm_hz H e4
 ·show cl s (hazB s.c p ((0:Nat):Int))=_;rw [e1];exact at_hz e4
theorem rs63 {s:Sta} {p:Nat} (H:CV s) (T:TV s.c (s.th p)) (hp:p<s.ths.length) (h:(s.th p).pc=63):RS s p {mm s with hz:=upd (mm s).hz (2*p+1) 0} (fin s.c (s.th p)) (if (mm s).hz (2*p+1)=0 then 0 else 1) 0:=by
 have hb:=Xm H.cf
 have hlt:=H.lt
 have hpt:(p:Int)<s.c.th:=by omega
 have h0:(s.th p).pc≠0:=by rw [h];decide
 obtain ⟨e1,e2,e3,e4,e5⟩:=H.hzb (p:=p) (j:=1) hpt (by omega)
 refine .put ((st63 h).trans rfl) ⟨e2,e3⟩ ?_ ?_
 ·show mm (put s (hazB s.c p ((1:Nat):Int)) _)=_;rw [e1];exact mm_hz H e4
 ·show cl s (hazB s.c p ((1:Nat):Int))=_;rw [e1];exact at_hz e4
theorem rs70a {s:Sta} {p:Nat} (H:CV s) (T:TV s.c (s.th p)) (hp:p<s.ths.length) (h:(s.th p).pc=70) (hs:(s.th p).pos+1<2*s.c.th):RS s p (mm s) {s.th p with found:=fndT (s.th p) ((mm s).hz (s.th p).pos.toNat),pos:=(s.th p).pos+1} 0 0:=by
 have hb:=Xm H.cf
 have hlt:=H.lt
 have hpt:(p:Int)<s.c.th:=by omega
 have h0:(s.th p).pc≠0:=by rw [h];decide
 have q:=T.p7 h
 obtain ⟨e1,e2,e3,e4,e5⟩:=H.hzb (p:=(s.th p).pos.toNat / 2) (j:=(s.th p).pos.toNat % 2) (by omega) (by omega)
 have g1:(((s.th p).pos.toNat / 2:Nat):Int)=(s.th p).pos / 2:=by omega
 have g2:(((s.th p).pos.toNat % 2:Nat):Int)=(s.th p).pos % 2:=by omega
 have g3:2*((s.th p).pos.toNat / 2)+(s.th p).pos.toNat % 2=(s.th p).pos.toNat:=by omega
 rw [g1,g2,g3] at e5
 exact .id ((st70 h).trans (by unfold sk70;rw [if_pos hs,e5]))
def frS (s:Sta) (t:Th) (f:List Int):List Int×List Int:=(t.limbo.filter fun h=>!f.contains h).foldl Xz (s.gens,t.free)
theorem rs70b {s:Sta} {p:Nat} (H:CV s) (T:TV s.c (s.th p)) (hp:p<s.ths.length) (h:(s.th p).pc=70) (hs:¬(s.th p).pos+1<2*s.c.th):RS s p {mm s with gn:=fun i=>(frS s (s.th p) (fndT (s.th p) ((mm s).hz (s.th p).pos.toNat))).1.getD i default} (endT {s.th p with limbo:=(s.th p).limbo.filter fun h=>(fndT (s.th p) ((mm s).hz (s.th p).pos.toNat)).contains h,free:=(frS s (s.th p) (fndT (s.th p) ((mm s).hz (s.th p).pos.toNat))).2} ⟨0,0⟩) 0 0:=by
 have hb:=Xm H.cf
 have hlt:=H.lt
 have hpt:(p:Int)<s.c.th:=by omega
 have h0:(s.th p).pc≠0:=by rw [h];decide
 have q:=T.p7 h
 obtain ⟨e1,e2,e3,e4,e5⟩:=H.hzb (p:=(s.th p).pos.toNat / 2) (j:=(s.th p).pos.toNat % 2) (by omega) (by omega)
 have g1:(((s.th p).pos.toNat / 2:Nat):Int)=(s.th p).pos / 2:=by omega
 have g2:(((s.th p).pos.toNat % 2:Nat):Int)=(s.th p).pos % 2:=by omega
 have g3:2*((s.th p).pos.toNat / 2)+(s.th p).pos.toNat % 2=(s.th p).pos.toNat:=by omega
 rw [g1,g2,g3] at e5
 have hK:=(st70 (s:=s) (p:=p) h).trans (by unfold sk70;rw [if_neg hs,e5])
 have e:stepV s p={Ye s p (s.th p) with steps:=s.steps+1}:=rfl
 rw [hK] at e
 refine ⟨?_,?_,?_,?_,?_,?_⟩ <;> rw [e] <;> first | rfl | (show _=_+0;rw [Int.add_zero])
theorem rs80 {s:Sta} {p:Nat} (H:CV s) (T:TV s.c (s.th p)) (hp:p<s.ths.length) (h:(s.th p).pc=80):RS s p {mm s with an:=upd (mm s).an p 0} (endT {s.th p with snap:=0} ⟨0,0⟩) (if (mm s).an p=0 then 0 else 1) 0:=by
 have hb:=Xm H.cf
 have hlt:=H.lt
 have hpt:(p:Int)<s.c.th:=by omega
 have h0:(s.th p).pc≠0:=by rw [h];decide
 obtain ⟨e1,e2,e3,e4⟩:=H.anb hpt
 refine .put ((st80 h).trans rfl) ⟨e2,e3⟩ ?_ ?_
 ·rw [e1];exact mm_an H hpt
 ·rw [e1];exact at_an hpt
end
noncomputable section
inductive Ow where
 | un
 | fr (p:Nat)
 | pr (p:Nat)
 | hd (k:Nat)
 | rt (p:Nat)
structure Gh where
 ls:Nat→List Nat
 sq:Nat→Nat
 nx:Nat
 pb:Nat→Option Nat
 ow:Nat→Ow
 lo:Nat→Int
 hi:Nat→Int
 su:Nat→Nat
def Ch (m:Mm):Int→List Nat→Prop
 | v,[]=>v=0
 | v,i::L=>v=hl m.gn i∧Ch m (unmk (m.ol i)) L
abbrev mkd (m:Mm) (i:Nat):Prop:=isMk (m.ol i)=true
def pend (t:Th):List (Int×Int):=if 43≤t.pc∧t.pc≤45∧t.curr≠0 then [(t.curr,t.op.key)] else []
def hk (e:Ent):Int×Int:=(e.h,e.key)
def Rt (t:Th):List Int:=(pend t).map Prod.fst++(t.buf.map Ent.h++(t.work.map Ent.h++t.limbo))
def wlk (t:Th):Prop:=10≤t.pc∧t.pc≤15∧t.op.k≠2
instance {t:Th}:Decidable (wlk t):=by unfold wlk;exact inferInstance
def LKs (t:Th):List (Int×Int):=pend t++(t.buf.map hk++(if wlk t then t.work.tail else t.work).map hk)
def tgt (t:Th):Int:=(t.work.headD default).h
def sqn (G:Gh) (h:Int):Nat:=if h=0 then 0 else G.sq (ix h)
def kk (t:Th):Nat:=(wKey t).toNat
def ok (t:Th):Nat:=t.op.key.toNat
def Sc (c:Cf) (T:Nat→Th) (q j:Nat) (h:Int):Prop:=∀ r:Nat,(r:Int)<c.th→(T r).pc=70→h∈(T r).limbo→h∈(T r).found∨(T r).pos≤((2*q+j:Nat):Int)
def Gd (c:Cf) (m:Mm) (T:Nat→Th) (G:Gh) (q j:Nat) (h:Int) (k:Nat):Prop:=(∃ i:Nat,(i:Int)<c.cap∧h=hl m.gn i∧ix h=i∧G.pb i=some k)∧m.hz (2*q+j)=h∧Sc c T q j h
structure GA (c:Cf) (m:Mm) (G:Gh):Prop where
 gn:∀ i:Nat,(i:Int)<c.cap→i<63∧0≤m.gn i∧m.gn i≤9998
 ch:∀ k:Nat,(k:Int)<c.keys→Ch m (m.hd k) (G.ls k)
 lp:∀ k:Nat,(k:Int)<c.keys→∀ i∈G.ls k,G.pb i=some k
 pk:∀ i k:Nat,G.pb i=some k→(i:Int)<c.cap∧(k:Int)<c.keys∧1≤G.sq i
 pl:∀ i k:Nat,G.pb i=some k→i∈G.ls k∨mkd m i
 so:∀ k:Nat,(k:Int)<c.keys→(G.ls k).Pairwise fun x y=>G.sq y<G.sq x
 sx:∀ i:Nat,G.sq i<G.nx
 oh:∀ k i:Nat,(k:Int)<c.keys→(G.ls k).head?=some i→G.ow i=.hd k∧¬mkd m i
 ho:∀ k i:Nat,(i:Int)<c.cap→G.ow i=.hd k→(k:Int)<c.keys∧(G.ls k).head?=some i
 o1:∀ i:Nat,(i:Int)<c.cap→(G.ow i=.un↔m.ar≤i)
 of:∀ i p:Nat,(i:Int)<c.cap→G.ow i=.fr p→(p:Int)<c.th
 op:∀ i p:Nat,(i:Int)<c.cap→G.ow i=.pr p→(p:Int)<c.th
 or:∀ i p:Nat,(i:Int)<c.cap→G.ow i=.rt p→(p:Int)<c.th
 si:∀ i j:Nat,G.pb i≠none→G.pb j≠none→G.sq i=G.sq j→i=j
 ob:∀ i:Nat,(i:Int)<c.cap→(G.pb i≠none↔(∃ k,G.ow i=.hd k)∨∃ p,G.ow i=.rt p)
 a0:0≤m.ar∧m.ar≤c.cap
structure TA (c:Cf) (m:Mm) (T:Nat→Th) (G:Gh) (q:Nat) (t:Th):Prop where
 f1:t.free.Nodup
 f2:∀ x∈t.free,∃ i:Nat,(i:Int)<c.cap∧x=i∧G.ow i=.fr q
 f3:∀ i:Nat,(i:Int)<c.cap→G.ow i=.fr q→(i:Int)∈t.free
 p2:32≤t.pc∧t.pc≤42→∃ i:Nat,(i:Int)<c.cap∧t.node=hl m.gn i∧ix t.node=i∧G.ow i=.pr q
 p3:∀ i:Nat,(i:Int)<c.cap→G.ow i=.pr q→(32≤t.pc∧t.pc≤42)∧t.node=hl m.gn i
 r1:(Rt t).Nodup
 r2:∀ h∈Rt t,∃ i:Nat,(i:Int)<c.cap∧h=hl m.gn i∧ix h=i∧G.ow i=.rt q
 r3:∀ i:Nat,(i:Int)<c.cap→G.ow i=.rt q→hl m.gn i∈Rt t
 lk:∀ x∈LKs t,ix x.1∈G.ls x.2.toNat∧¬mkd m (ix x.1)
 wm:wlk t→t.work≠[]∧mkd m (ix (tgt t))∧G.pb (ix (tgt t))=some (kk t)
 lm:∀ h∈t.limbo,mkd m (ix h)∧∀ k:Nat,(k:Int)<c.keys→ix h ∉ G.ls k
 w1:wlk t→11≤t.pc→ix (tgt t)∈G.ls (kk t)→G.sq (ix (tgt t))≤sqn G t.curr
 w2:wlk t→t.pc=15→t.curr≠tgt t
 w3:15≤t.pc∧t.pc≤19→isMk t.next=false∧∀ i∈G.ls (kk t),sqn G t.next<G.sq i→sqn G t.curr≤G.sq i
 w4:t.pc=14→m.ol (ix t.curr)=t.next∧isMk t.next=true
 g0:13≤t.pc∧t.pc≤19→Gd c m T G q 0 t.curr (kk t)
 gp:11≤t.pc∧t.pc≤19→t.prev≠0→Gd c m T G q 1 t.prev (kk t)
 gc:38≤t.pc∧t.pc≤42→t.curr≠0→Gd c m T G q 0 t.curr (ok t)
 gn:43≤t.pc∧t.pc≤45→Gd c m T G q 1 t.node (ok t)
 z0:t.pc=12∨t.pc=37→m.hz (2*q+0)=t.curr
 z1:35≤t.pc∧t.pc≤42→m.hz (2*q+1)=t.node
 nz:t.pc=11∨t.pc=12∨t.pc=36∨t.pc=37→t.curr≠0
 pu:t.pc=42→m.ol (ix t.node)=t.curr
 rd:16≤t.pc∧t.pc≤21→t.op.k=2
 nr:22≤t.pc∧t.pc≤70→t.op.k≠2
structure IA (c:Cf) (m:Mm) (T:Nat→Th) (G:Gh):Prop where
 g:GA c m G
 t:∀ q:Nat,(q:Int)<c.th→TA c m T G q (T q)
theorem Rt_work {t:Th} {e:Ent} (h:e∈t.work):e.h∈Rt t:=by
 unfold Rt;exact List.mem_append_right _ (List.mem_append_right _ (List.mem_append_left _ (List.mem_map_of_mem h)))
theorem Rt_buf {t:Th} {e:Ent} (h:e∈t.buf):e.h∈Rt t:=by
 unfold Rt;exact List.mem_append_right _ (List.mem_append_left _ (List.mem_map_of_mem h))
theorem Rt_limbo {t:Th} {h:Int} (hm:h∈t.limbo):h∈Rt t:=by
 unfold Rt;exact List.mem_append_right _ (List.mem_append_right _ (List.mem_append_right _ hm))
theorem tgt_mem {t:Th} (h:t.work≠[]):∃ e∈t.work,e.h=tgt t∧t.work.headD default=e:=by
 cases hw:t.work with
 | nil=>exact absurd hw h
 | cons e w=>exact ⟨e,by simp,by unfold tgt;rw [hw];rfl,rfl⟩
theorem LKs_Rt {t:Th} {x:Int×Int} (h:x∈LKs t):x.1∈Rt t:=by
 unfold LKs at h
 rcases List.mem_append.1 h with h | h
 ·unfold Rt;exact List.mem_append_left _ (List.mem_map_of_mem h)
 ·rcases List.mem_append.1 h with h | h
  ·obtain ⟨e,h1,rfl⟩:=List.mem_map.1 h;exact Rt_buf h1
  ·obtain ⟨e,h1,rfl⟩:=List.mem_map.1 h
   refine Rt_work ?_
   split at h1
   ·exact List.mem_of_mem_tail h1
   ·exact h1
theorem ow_pb {c:Cf} {m:Mm} {G:Gh} (A:GA c m G) {i:Nat} (hi:(i:Int)<c.cap) {p:Nat} (h:G.ow i=.rt p):∃ k,G.pb i=some k:=by
 have:=(A.ob i hi).2 (.inr ⟨p,h⟩)
 cases hb:G.pb i with
 | none=>exact absurd hb this
 | some k=>exact ⟨k,rfl⟩
theorem pb_no {c:Cf} {m:Mm} {G:Gh} (A:GA c m G) {i:Nat} (hi:(i:Int)<c.cap) (h1:∀ k,G.ow i≠.hd k) (h2:∀ p,G.ow i≠.rt p):G.pb i=none:=by
 cases hb:G.pb i with
 | none=>rfl
 | some k =>
   rcases (A.ob i hi).1 (by rw [hb];simp) with ⟨k,h⟩ | ⟨k,h⟩
   ·exact absurd h (h1 k)
   ·exact absurd h (h2 k)
theorem ls_cap {c:Cf} {m:Mm} {G:Gh} (A:GA c m G) {i k:Nat} (hk:(k:Int)<c.keys) (h:i∈G.ls k):(i:Int)<c.cap:=(A.pk i k (A.lp k hk i h)).1
def ScK (m:Mm) (t t':Th):Prop:=t'.pc=70→t'.pos=0∨(t.pc=70∧t'.limbo=t.limbo∧0≤t.pos∧t'.found=fndT t (m.hz t.pos.toNat)∧t'.pos=t.pos+1)
theorem Sc.up {c:Cf} {m:Mm} {T:Nat→Th} {q j p:Nat} {h:Int} {t':Th} (H:Sc c T q j h) (hz:m.hz (2*q+j)=h) (h0:h≠0) (hp:(p:Int)<c.th) (hs:ScK m (T p) t'):Sc c (upd T p t') q j h:=by
 intro r hr h70 hl
 by_cases e:r=p
 ·subst e
  rw [upd_s] at *
  rcases hs h70 with h1 | ⟨h1,h2,h3,h4,h5⟩
  ·exact .inr (by rw [h1];omega)
  ·rw [h2] at hl
   rw [h4,h5]
   unfold fndT
   rcases H r hr h1 hl with h6 | h6
   ·left
    split
    ·exact List.mem_append_left _ h6
    ·exact h6
   ·by_cases h7:(T r).pos=((2*q+j:Nat):Int)
    ·left
     rw [h7,show (((2*q+j:Nat):Int)).toNat=2*q+j by omega,hz,if_pos h0]
     simp
    ·exact .inr (by omega)
 ·rw [upd_n e] at *
  exact H r hr h70 hl
theorem Gd.up {c:Cf} {m:Mm} {T:Nat→Th} {G:Gh} {q j k p:Nat} {h:Int} {t':Th} (A:GA c m G) (H:Gd c m T G q j h k) (hp:(p:Int)<c.th) (hs:ScK m (T p) t'):Gd c m (upd T p t') G q j h k:=by
 obtain ⟨⟨i,h1,h2,h3,h4⟩,h5,h6⟩:=H
 have:=A.gn i h1
 exact ⟨⟨i,h1,h2,h3,h4⟩,h5,h6.up h5 (by rw [h2];have:=hl_pos (g:=m.gn) (i:=i) this.2.1;omega) hp hs⟩
theorem Gd.to {c:Cf} {m m':Mm} {T:Nat→Th} {G:Gh} {q j k p:Nat} {h:Int} {t':Th} (H:Gd c m T G q j h k) (A:GA c m G) (hp:(p:Int)<c.th) (hs:ScK m (T p) t') (e1:m'.gn=m.gn) (e2:m'.hz (2*q+j)=m.hz (2*q+j)):Gd c m' (upd T p t') G q j h k:=by
 obtain ⟨h1,h2,h3⟩:=Gd.up A H hp hs
 exact ⟨by rw [e1];exact h1,by rw [e2];exact h2,h3⟩
theorem TA.reg {c:Cf} {m m':Mm} {T:Nat→Th} {G:Gh} {q p:Nat} {t t':Th} (A:TA c m T G q t) (g:GA c m G) (hp:(p:Int)<c.th) (hs:ScK m (T p) t')
 (e1:m'.gn=m.gn) (e2:m'.ol=m.ol) (e3:∀ j,j≤1→m'.hz (2*q+j)=m.hz (2*q+j)):TA c m' (upd T p t') G q t:=by
 have hm:∀ i,mkd m' i=mkd m i:=fun i=>by unfold mkd;rw [e2]
 have z0:=e3 0 (by omega)
 have z1:=e3 1 (by omega)
 obtain ⟨a1,a2,a3,a4,a5,a6,a7,a8,a9,a10,a11,a12,a13,a14,a15,b1,b2,b3,b4,b5,b6,a18,a19,a20,a21⟩:=A
 refine ⟨a1,a2,a3,by rw [e1];exact a4,by rw [e1];exact a5,a6,by rw [e1];exact a7,by rw [e1];exact a8,?_,?_,?_,a12,a13,a14,by rw [e2];exact a15,fun x=>(b1 x).to g hp hs e1 z0,fun x y=>(b2 x y).to g hp hs e1 z1,fun x y=>(b3 x y).to g hp hs e1 z0,fun x=>(b4 x).to g hp hs e1 z1,fun x=>z0.trans (b5 x),fun x=>z1.trans (b6 x),a18,by rw [e2];exact a19,a20,a21⟩
 ·simp only [hm];exact a9
 ·simp only [hm];exact a10
 ·simp only [hm];exact a11
theorem GA.reg {c:Cf} {m m':Mm} {G:Gh} (A:GA c m G) (e1:m'.gn=m.gn) (e2:m'.ol=m.ol) (e3:m'.hd=m.hd) (e4:m'.ar=m.ar):GA c m' G:=by
 have hm:∀ i,mkd m' i=mkd m i:=fun i=>by unfold mkd;rw [e2]
 have hc:∀ (L:List Nat) (v:Int),Ch m v L→Ch m' v L:=by
  intro L
  induction L with
  | nil=>intro v h;exact h
  | cons a L ih=>intro v h;exact ⟨by rw [e1];exact h.1,by rw [e2];exact ih _ h.2⟩
 refine ⟨by rw [e1];exact A.gn,fun k hk=>by rw [e3];exact hc _ _ (A.ch k hk),A.lp,A.pk,by simp only [hm];exact A.pl,A.so,A.sx,by simp only [hm];exact A.oh,A.ho,by rw [e4];exact A.o1,A.of,A.op,A.or,A.si,A.ob,by rw [e4];exact A.a0⟩
theorem IA.reg {c:Cf} {m m':Mm} {T:Nat→Th} {G:Gh} {p:Nat} {t':Th} (A:IA c m T G) (hp:(p:Int)<c.th) (hs:ScK m (T p) t')
 (e1:m'.gn=m.gn) (e2:m'.ol=m.ol) (e3:m'.hd=m.hd) (e4:m'.ar=m.ar) (e5:∀ q,q≠p→∀ j,j≤1→m'.hz (2*q+j)=m.hz (2*q+j))
 (hown:TA c m' (upd T p t') G p t'):IA c m' (upd T p t') G:=by
 refine ⟨A.g.reg e1 e2 e3 e4,fun q hq=>?_⟩
 by_cases e:q=p
 ·subst e;rw [upd_s];exact hown
 ·rw [upd_n e];exact (A.t q hq).reg A.g hp hs e1 e2 (e5 q e)
end
noncomputable section
theorem pend_no {t:Th} (h:¬(43≤t.pc∧t.pc≤45)):pend t=[]:=if_neg fun x=>h ⟨x.1,x.2.1⟩
theorem pend_eq {t t':Th} (h1:(43≤t'.pc∧t'.pc≤45)↔(43≤t.pc∧t.pc≤45)) (h2:43≤t.pc∧t.pc≤45→t'.curr=t.curr) (ho:t'.op=t.op):pend t'=pend t:=by
 by_cases h:43≤t.pc∧t.pc≤45
 ·unfold pend
  have h':=h1.2 h
  rw [h2 h,ho]
  by_cases hc:t.curr=0
  ·rw [if_neg (fun x=>x.2.2 hc),if_neg (fun x=>x.2.2 hc)]
  ·rw [if_pos ⟨h'.1,h'.2,hc⟩,if_pos ⟨h.1,h.2,hc⟩]
 ·rw [pend_no h,pend_no (fun x=>h (h1.1 x))]
theorem Rt_eq {t t':Th} (hp:pend t'=pend t) (hb:t'.buf=t.buf) (hw:t'.work=t.work) (hl:t'.limbo=t.limbo):Rt t'=Rt t:=by unfold Rt;rw [hp,hb,hw,hl]
theorem LKs_eq {t t':Th} (hp:pend t'=pend t) (hb:t'.buf=t.buf) (hw:t'.work=t.work) (hk:wlk t'↔wlk t):LKs t'=LKs t:=by
 unfold LKs
 rw [hp,hb,hw]
 by_cases h:wlk t
 ·rw [if_pos h,if_pos (hk.2 h)]
 ·rw [if_neg h,if_neg (fun x=>h (hk.1 x))]
theorem kk_eq {t t':Th} (ho:t'.op=t.op) (hw:t'.work=t.work):kk t'=kk t:=by unfold kk wKey;rw [ho,hw]
theorem tgt_eq {t t':Th} (hw:t'.work=t.work):tgt t'=tgt t:=by unfold tgt;rw [hw]
theorem TA.keep {c:Cf} {m m':Mm} {T T':Nat→Th} {G:Gh} {p:Nat} {t:Th} {a b:Int} (A:TA c m T G p t) (t':Th) (h:t.pc=a) (h':t'.pc=b) (e1:m'.gn=m.gn) (e2:m'.ol=m.ol)
 (c1:((43≤b∧b≤45)↔(43≤a∧a≤45))∧(43≤a∧a≤45→t'.curr=t.curr)) (c2:(32≤b∧b≤42)↔(32≤a∧a≤42)) (c3:t.op.k=2∨((10≤b∧b≤15)↔(10≤a∧a≤15)))
 (w1:wlk t'→11≤t'.pc→ix (tgt t')∈G.ls (kk t')→G.sq (ix (tgt t'))≤sqn G t'.curr) (w2:wlk t'→t'.pc=15→t'.curr≠tgt t')
 (w3:15≤t'.pc∧t'.pc≤19→isMk t'.next=false∧∀ i∈G.ls (kk t'),sqn G t'.next<G.sq i→sqn G t'.curr≤G.sq i)
 (w4:t'.pc=14→m'.ol (ix t'.curr)=t'.next∧isMk t'.next=true)
 (g0:13≤t'.pc∧t'.pc≤19→Gd c m' T' G p 0 t'.curr (kk t')) (gp:11≤t'.pc∧t'.pc≤19→t'.prev≠0→Gd c m' T' G p 1 t'.prev (kk t'))
 (gc:38≤t'.pc∧t'.pc≤42→t'.curr≠0→Gd c m' T' G p 0 t'.curr (ok t')) (gn:43≤t'.pc∧t'.pc≤45→Gd c m' T' G p 1 t'.node (ok t'))
 (z0:t'.pc=12∨t'.pc=37→m'.hz (2*p+0)=t'.curr) (z1:35≤t'.pc∧t'.pc≤42→m'.hz (2*p+1)=t'.node)
 (nz:t'.pc=11∨t'.pc=12∨t'.pc=36∨t'.pc=37→t'.curr≠0) (pu:t'.pc=42→m'.ol (ix t'.node)=t'.curr) (rd:16≤t'.pc∧t'.pc≤21→t.op.k=2) (nr:22≤b∧b≤70→22≤a∧a≤70)
 (ho:t'.op=t.op:=by rfl) (hf:t'.free=t.free:=by rfl) (hb:t'.buf=t.buf:=by rfl) (hw:t'.work=t.work:=by rfl) (hl:t'.limbo=t.limbo:=by rfl) (hn:t'.node=t.node:=by rfl):TA c m' T' G p t':=by
 have hm:∀ i,mkd m' i=mkd m i:=fun i=>by unfold mkd;rw [e2]
 have hp:=pend_eq (t:=t) (t':=t') (by rw [h,h'];exact c1.1) (by rw [h];exact c1.2) ho
 have hk:wlk t'↔wlk t:=by
  unfold wlk
  rw [ho,h,h']
  rcases c3 with c3 | c3
  ·exact ⟨fun x=>absurd c3 x.2.2,fun x=>absurd c3 x.2.2⟩
  ·constructor
   ·intro x;have:=c3.1 ⟨x.1,x.2.1⟩;exact ⟨this.1,this.2,x.2.2⟩
   ·intro x;have:=c3.2 ⟨x.1,x.2.1⟩;exact ⟨this.1,this.2,x.2.2⟩
 refine ⟨by rw [hf];exact A.f1,by rw [hf];exact A.f2,by rw [hf];exact A.f3,?_,?_,by rw [Rt_eq hp hb hw hl];exact A.r1,by rw [Rt_eq hp hb hw hl,e1];exact A.r2,by rw [Rt_eq hp hb hw hl,e1];exact A.r3,?_,?_,?_,w1,w2,w3,w4,g0,gp,gc,gn,z0,z1,nz,pu,by rw [ho];exact rd,fun x=>by rw [ho];rw [h'] at x;exact A.nr (by have:=nr x;omega)⟩
 ·intro x
  rw [hn,e1]
  exact A.p2 (by rw [h'] at x;rw [h];exact c2.1 x)
 ·intro i hi x
  obtain ⟨y1,y2⟩:=A.p3 i hi x
  rw [hn,e1]
  exact ⟨by rw [h] at y1;rw [h'];exact c2.2 y1,y2⟩
 ·rw [LKs_eq hp hb hw hk];simp only [hm];exact A.lk
 ·intro x
  rw [hw,tgt_eq hw,kk_eq ho hw,hm]
  exact A.wm (hk.1 x)
 ·rw [hl];simp only [hm];exact A.lm
theorem TA.plain {c:Cf} {m m':Mm} {T T':Nat→Th} {G:Gh} {p:Nat} {t:Th} {a b:Int} (A:TA c m T G p t) (t':Th) (h:t.pc=a) (h':t'.pc=b) (e1:m'.gn=m.gn) (e2:m'.ol=m.ol)
 (ca:a<10∨a=16∨a=17∨a=18∨a=19∨a=20∨a=21∨a=30∨a=31∨45<a∨t.op.k=2∧a<22) (cb:b<10∨b=20∨b=21∨b=30∨b=31∨45<b) (c3:b=20∨b=21→t.op.k=2) (c4:22≤b∧b≤70→22≤a∧a≤70)
 (ho:t'.op=t.op:=by rfl) (hf:t'.free=t.free:=by rfl) (hb:t'.buf=t.buf:=by rfl) (hw:t'.work=t.work:=by rfl) (hl:t'.limbo=t.limbo:=by rfl)
 : TA c m' T' G p t':=by
 have hm:∀ i,mkd m' i=mkd m i:=fun i=>by unfold mkd;rw [e2]
 have hp:pend t'=pend t:=by rw [pend_no (by omega),pend_no (by omega)]
 have hk:¬wlk t'∧¬wlk t:=by
  unfold wlk
  constructor
  ·intro x;omega
  ·intro x;omega
 have hk2:wlk t'↔wlk t:=⟨fun x=>absurd x hk.1,fun x=>absurd x hk.2⟩
 refine ⟨by rw [hf];exact A.f1,by rw [hf];exact A.f2,by rw [hf];exact A.f3,fun x=>by omega,?_,by rw [Rt_eq hp hb hw hl];exact A.r1,by rw [Rt_eq hp hb hw hl,e1];exact A.r2,by rw [Rt_eq hp hb hw hl,e1];exact A.r3,?_,fun x=>absurd x hk.1,?_,fun x=>absurd x hk.1,fun x=>absurd x hk.1,fun x=>by omega,fun x=>by omega,fun x=>by omega,fun x=>by omega,fun x=>by omega,fun x=>by omega,fun x=>by omega,fun x=>by omega,fun x=>by omega,fun x=>by omega,?_,fun x=>by rw [ho];exact A.nr (by have:=c4 (by omega);omega)⟩
 ·intro i hi x
  have:=(A.p3 i hi x).1
  omega
 ·rw [LKs_eq hp hb hw hk2];simp only [hm];exact A.lk
 ·rw [hl];simp only [hm];exact A.lm
 ·intro x
  rw [ho];exact c3 (by omega)
theorem ScK.no {m:Mm} {t t':Th} (h:t'.pc≠70):ScK m t t':=fun x=>absurd x h
theorem IA.plain {c:Cf} {m m':Mm} {T:Nat→Th} {G:Gh} {p:Nat} {a:Int} (A:IA c m T G) (hp:(p:Int)<c.th) (t':Th) (h:(T p).pc=a)
 (ca:a<10∨a=16∨a=17∨a=18∨a=19∨a=20∨a=21∨a=30∨a=31∨45<a∨(T p).op.k=2∧a<22) (cb:t'.pc<10∨t'.pc=20∨t'.pc=21∨t'.pc=30∨t'.pc=31∨45<t'.pc) (c3:t'.pc=20∨t'.pc=21→(T p).op.k=2) (c4:22≤t'.pc∧t'.pc≤70→22≤a∧a≤70) (hs:ScK m (T p) t')
 (e1:m'.gn=m.gn:=by rfl) (e2:m'.ol=m.ol:=by rfl) (e3:m'.hd=m.hd:=by rfl) (e4:m'.ar=m.ar:=by rfl) (e5:∀ q,q≠p→∀ j,j≤1→m'.hz (2*q+j)=m.hz (2*q+j):=by exact fun _ _ _ _=>rfl)
 (ho:t'.op=(T p).op:=by rfl) (hf:t'.free=(T p).free:=by rfl) (hb:t'.buf=(T p).buf:=by rfl) (hw:t'.work=(T p).work:=by rfl) (hl:t'.limbo=(T p).limbo:=by rfl):IA c m' (upd T p t') G :=
 A.reg hp hs e1 e2 e3 e4 e5 ((A.t p hp).plain t' h rfl e1 e2 ca cb c3 c4 ho hf hb hw hl)
theorem upd2 {f:Nat→Int} {p x:Nat} {v:Int} (hx:x≤1):∀ q,q≠p→∀ j,j≤1→upd f (2*p+x) v (2*q+j)=f (2*q+j):=fun q hq j hj=>upd_n (by omega)
end
noncomputable section
theorem Ch.split {m:Mm} {a:Nat} {B:List Nat}:∀ {A:List Nat} {v:Int},Ch m v (A++a::B)→Ch m (unmk (m.ol a)) B
 | [],_,h=>h.2
 | _::A,_,h=>Ch.split (A:=A) h.2
theorem Ch.zero {m:Mm} {L:List Nat} (hg:∀ i∈L,0≤m.gn i) (h:Ch m 0 L):L=[]:=by
 cases L with
 | nil=>rfl
 | cons i L=>have:=h.1;have:=hl_pos (g:=m.gn) (i:=i) (hg i (by simp));omega
theorem Ch.hd {m:Mm} {L:List Nat} {v:Int} (h:Ch m v L) (h0:v≠0):∃ i B,L=i::B∧v=hl m.gn i:=by
 cases L with
 | nil=>exact absurd h h0
 | cons i L=>exact ⟨i,L,rfl,h.1⟩
theorem Ch.un {m:Mm} {L:List Nat} {v:Int} (h:Ch m v L):unmk v=v:=by
 cases L with
 | nil=>rw [show v=0 from h];exact X4u
 | cons i L=>rw [h.1];exact hl_un
theorem mem_split {α:Type} {a:α} {L:List α} (h:a∈L):∃ A B,L=A++a::B:=List.append_of_mem h
section
variable {c:Cf} {m:Mm} {T:Nat→Th} {G:Gh} {p:Nat}
theorem GA.ixh (g:GA c m G) {i:Nat} (hi:(i:Int)<c.cap):ix (hl m.gn i)=i:=by
 have:=g.gn i hi
 exact hl_ix this.1 ⟨this.2.1,by omega⟩
theorem GA.pos (g:GA c m G) {i:Nat} (hi:(i:Int)<c.cap):2≤hl m.gn i:=hl_pos (g.gn i hi).2.1
theorem GA.sqv (g:GA c m G) {i:Nat} (hi:(i:Int)<c.cap):sqn G (hl m.gn i)=G.sq i:=by
 unfold sqn
 rw [if_neg (by have:=g.pos hi;omega),g.ixh hi]
theorem GA.top (g:GA c m G) {k i:Nat} (hk:(k:Int)<c.keys) (h:i∈G.ls k):G.sq i≤sqn G (m.hd k):=by
 have hc:=g.ch k hk
 have hs:=g.so k hk
 cases hL:G.ls k with
 | nil=>rw [hL] at h;simp at h
 | cons a L =>
   rw [hL] at hc hs h
   have ha:=ls_cap g hk (i:=a) (by rw [hL];simp)
   rw [hc.1,g.sqv ha]
   rcases List.mem_cons.1 h with rfl | h
   ·exact Nat.le_refl _
   ·exact Nat.le_of_lt ((List.pairwise_cons.1 hs).1 _ h)
theorem GA.next (g:GA c m G) {k i:Nat} (hp:G.pb i=some k) (hm:¬mkd m i):∃ A B,G.ls k=A++i::B∧Ch m (m.ol i) B∧(∀ x∈G.ls k,sqn G (m.ol i)<G.sq x→G.sq i≤G.sq x):=by
 obtain ⟨hi,hk,h1⟩:=g.pk i k hp
 have hin:=(g.pl i k hp).resolve_right hm
 obtain ⟨A,B,hL⟩:=mem_split hin
 have hc:=g.ch k hk
 have hs:=g.so k hk
 have hu:unmk (m.ol i)=m.ol i:=by unfold unmk;exact if_neg hm
 rw [hL] at hc hs
 have hB:=hc.split
 rw [hu] at hB
 refine ⟨A,B,hL,hB,fun x hx hlt=>?_⟩
 rw [hL] at hx
 obtain ⟨s1,s2,s3⟩:=List.pairwise_append.1 hs
 rcases List.mem_append.1 hx with hx | hx
 ·exact Nat.le_of_lt (s3 x hx i (by simp))
 ·rcases List.mem_cons.1 hx with rfl | hx
  ·exact Nat.le_refl _
  ·cases B with
   | nil=>simp at hx
   | cons b B =>
     have hb:=ls_cap g hk (i:=b) (by rw [hL];simp)
     rw [hB.1,g.sqv hb] at hlt
     rcases List.mem_cons.1 hx with rfl | hx
     ·omega
     ·have:=(List.pairwise_cons.1 (List.pairwise_cons.1 s2).2).1 x hx
      omega
theorem Gd.new (A:IA c m T G) {q j i k:Nat} (hk:(k:Int)<c.keys) (h:i∈G.ls k) (hz:m.hz (2*q+j)=hl m.gn i):Gd c m T G q j (hl m.gn i) k:=by
 have hi:=ls_cap A.g hk h
 refine ⟨⟨i,hi,rfl,A.g.ixh hi,A.g.lp k hk i h⟩,hz,fun r hr _ hl2=>?_⟩
 have:=((A.t r hr).lm _ hl2).2 k hk
 rw [A.g.ixh hi] at this
 exact absurd h this
theorem kk_lt (T2:TV c (T p)) (h0:(T p).pc≠0):((kk (T p):Nat):Int)<c.keys:=by
 have:=Vq T2 h0;unfold kk;omega
theorem ok_lt (T2:TV c (T p)) (h0:(T p).pc≠0):((ok (T p):Nat):Int)<c.keys:=by
 have:=Vu T2 h0;unfold ok;omega
theorem link_ls (A:IA c m T G) (hp:(p:Int)<c.th) (T2:TV c (T p)) (hpc:11≤(T p).pc∧(T p).pc≤19) (h0:(T p).curr≠0) (hlk:lkv m (T p)=(T p).curr) :
 ∃ i L B,G.ls (kk (T p))=L++i::B∧(T p).curr=hl m.gn i∧(((T p).prev=0∧L=[])∨((T p).prev≠0∧∃ L',L=L'++[ix (T p).prev]∧(T p).prev=hl m.gn (ix (T p).prev)∧¬mkd m (ix (T p).prev))):=by
 have hk:=kk_lt (T:=T) (p:=p) T2 (by omega)
 unfold lkv at hlk
 by_cases hv:(T p).prev=0
 ·rw [if_pos hv] at hlk
  have hc:=A.g.ch _ hk
  unfold kk at hc
  rw [hlk] at hc
  obtain ⟨i,B,h1,h2⟩:=hc.hd h0
  exact ⟨i,[],B,h1,h2,.inl ⟨hv,rfl⟩⟩
 ·rw [if_neg hv] at hlk
  obtain ⟨⟨a,h1,h2,h3,h4⟩,_⟩:=(A.t p hp).gp hpc hv
  rw [h3] at hlk
  have hm:¬mkd m a:=by unfold mkd;rw [hlk,lnk_mk T2.cr];simp
  obtain ⟨L,B,e1,e2,_⟩:=A.g.next h4 hm
  rw [hlk] at e2
  obtain ⟨i,B',e3,e4⟩:=e2.hd h0
  refine ⟨i,L++[a],B',by rw [e1,e3];simp,e4,.inr ⟨hv,L,by rw [h3],by rw [h3];exact h2,by rw [h3];exact hm⟩⟩
theorem ia11 (A:IA c m T G) (hp:(p:Int)<c.th) (h:(T p).pc=11):IA c {m with hz:=upd m.hz (2*p+0) (T p).curr} (upd T p {T p with pc:=12}) G:=by
 have H:=A.t p hp
 refine A.reg hp (.no (by dsimp only;omega)) rfl rfl rfl rfl (upd2 (by omega)) ?_
 refine H.keep (b:=12) _ h rfl rfl rfl (by omega) (by omega) (by omega) (fun x _=>H.w1 ⟨by omega,by omega,x.2.2⟩ (by omega)) ?_ ?_ ?_ ?_ ?_ ?_ ?_ ?_ ?_ ?_ ?_ ?_ ?_
 all_goals try dsimp only
 all_goals first | omega | skip
 ·intro _ hv;exact (H.gp (by omega) hv).to A.g hp (.no (by dsimp only;omega)) rfl (upd_n (by omega))
 ·intro _;exact upd_s
 ·intro _;exact H.nz (by omega)
theorem ia12y (A:IA c m T G) (hp:(p:Int)<c.th) (T2:TV c (T p)) (h:(T p).pc=12) (hlk:lkv m (T p)=(T p).curr):IA c m (upd T p {T p with pc:=13}) G:=by
 have H:=A.t p hp
 have hn:ScK m (T p) {T p with pc:=13}:=.no (by dsimp only;omega)
 refine A.reg hp hn rfl rfl rfl rfl (fun _ _ _ _=>rfl) ?_
 refine H.keep (b:=13) _ h rfl rfl rfl (by omega) (by omega) (by omega) (fun x _=>H.w1 ⟨by omega,by omega,x.2.2⟩ (by omega)) ?_ ?_ ?_ ?_ ?_ ?_ ?_ ?_ ?_ ?_ ?_ ?_ ?_
 all_goals try dsimp only
 all_goals first | omega | skip
 ·intro _
  obtain ⟨i,L,B,h1,h2,_⟩:=link_ls A hp T2 (by omega) (H.nz (by omega)) hlk
  have:=Gd.new A (q:=p) (j:=0) (i:=i) (kk_lt T2 (by omega)) (by rw [h1];simp) (by rw [H.z0 (by omega),h2])
  rw [h2]
  exact this.to A.g hp hn rfl rfl
 ·intro _ hv;exact (H.gp (by omega) hv).to A.g hp hn rfl rfl
theorem ia12n (A:IA c m T G) (hp:(p:Int)<c.th) {a:Int} (h:(T p).pc=a) (ha:a=12∨a=14):IA c m (upd T p {T p with pc:=10}) G:=by
 have H:=A.t p hp
 refine A.reg hp (.no (by dsimp only;omega)) rfl rfl rfl rfl (fun _ _ _ _=>rfl) ?_
 refine H.keep (b:=10) _ h rfl rfl rfl (by omega) (by omega) (by omega) ?_ ?_ ?_ ?_ ?_ ?_ ?_ ?_ ?_ ?_ ?_ ?_ ?_ ?_
 all_goals try dsimp only
 all_goals omega
theorem ia13 (A:IA c m T G) (hp:(p:Int)<c.th) (h:(T p).pc=13):IA c m (upd T p {T p with next:=m.ol (ix (T p).curr),pc:=if isMk (m.ol (ix (T p).curr))=true then 14 else if (T p).op.k=2 then 16 else 15}) G:=by
 have H:=A.t p hp
 have G0:=H.g0 (by omega)
 obtain ⟨⟨i,hi,e1,e2,e3⟩,hz0,hsc⟩:=G0
 have key:∀ b:Int,(b=14∧isMk (m.ol (ix (T p).curr))=true)∨(b=16∧(T p).op.k=2∧¬isMk (m.ol (ix (T p).curr))=true)∨(b=15∧(T p).op.k≠2∧¬isMk (m.ol (ix (T p).curr))=true)→IA c m (upd T p {T p with next:=m.ol (ix (T p).curr),pc:=b}) G:=by
  intro b hb
  have q15:15≤b→¬isMk (m.ol (ix (T p).curr))=true:=by rcases hb with ⟨e,x⟩ | ⟨_,_,x⟩ | ⟨_,_,x⟩ <;> intro y <;> first | exact x | omega
  have q14:b=14→isMk (m.ol (ix (T p).curr))=true:=by rcases hb with ⟨e,x⟩ | ⟨_,_,x⟩ | ⟨_,_,x⟩ <;> intro y <;> first | exact x | omega
  have q16:16≤b→(T p).op.k=2:=by rcases hb with ⟨e,x⟩ | ⟨_,x,_⟩ | ⟨_,_,x⟩ <;> intro y <;> first | exact x | omega
  have qb:14≤b∧b≤16:=by rcases hb with ⟨e,x⟩ | ⟨e,_,x⟩ | ⟨e,_,x⟩ <;> omega
  have qc:(T p).op.k=2∨(10≤b∧b≤15):=by rcases hb with ⟨e,x⟩ | ⟨e,x,_⟩ | ⟨e,_,x⟩ <;> omega
  clear hb
  have hn:ScK m (T p) {T p with next:=m.ol (ix (T p).curr),pc:=b}:=.no (by dsimp only;omega)
  refine A.reg hp hn rfl rfl rfl rfl (fun _ _ _ _=>rfl) ?_
  refine H.keep (b:=b) _ h rfl rfl rfl (by omega) (by omega) (by omega) (fun x _=>H.w1 ⟨by omega,by omega,x.2.2⟩ (by omega)) ?_ ?_ ?_ ?_ ?_ ?_ ?_ ?_ ?_ ?_ ?_ ?_ ?_
  all_goals try dsimp only
  all_goals first | omega | skip
  ·intro x hb2 e
   have hm:=q15 (by omega)
   have:=(H.wm ⟨by omega,by omega,x.2.2⟩).2.1
   rw [show tgt {T p with next:=m.ol (ix (T p).curr),pc:=b}=tgt (T p) from rfl] at e
   rw [←e] at this
   exact hm this
  ·intro hb2
   have hm:=q15 (by omega)
   refine ⟨by simpa using hm,?_⟩
   rw [e2] at hm ⊢
   obtain ⟨_,_,_,_,hnx⟩:=A.g.next e3 hm
   intro x hx hlt
   have:=hnx x hx hlt
   rw [e1,A.g.sqv hi];exact this
  ·intro hb2
   exact ⟨rfl,q14 hb2⟩
  ·intro _;exact (H.g0 (by omega)).to A.g hp hn rfl rfl
  ·intro _ hv;exact (H.gp (by omega) hv).to A.g hp hn rfl rfl
 by_cases hm:isMk (m.ol (ix (T p).curr))=true
 ·rw [if_pos hm];exact key 14 (.inl ⟨rfl,hm⟩)
 ·rw [if_neg hm]
  by_cases ho:(T p).op.k=2
  ·rw [if_pos ho];exact key 16 (.inr (.inl ⟨rfl,ho,hm⟩))
  ·rw [if_neg ho];exact key 15 (.inr (.inr ⟨rfl,ho,hm⟩))
theorem goOn_pc {t:Th}:(goOn t).pc=11∨(goOn t).pc=20∨(goOn t).pc=62∨(goOn t).pc=60:=by
 unfold goOn
 split
 ·exact .inl rfl
 ·split
  ·exact .inr (.inl rfl)
  ·split
   ·exact .inr (.inr (.inl rfl))
   ·dsimp only;split
    ·exact .inr (.inr (.inl rfl))
    ·exact .inr (.inr (.inr rfl))
theorem TA.goOn {m':Mm} {T':Nat→Th} {t:Th} (H:TA c m T G p t) (g:GA c m G) (e1:m'.gn=m.gn) (e2:m'.ol=m.ol) (hpc:10≤t.pc∧t.pc≤15) (a b:Int)
 (hw:wlk t→ix (tgt t)∈G.ls (kk t)→G.sq (ix (tgt t))≤sqn G b) (hg:a≠0→Gd c m' T' G p 1 a (kk t)):TA c m' T' G p (A.goOn {t with prev:=a,curr:=b}):=by
 by_cases hb:b=0
 ·by_cases ho:t.op.k=2
  ·rw [Q9 (t:={t with prev:=a,curr:=b}) hb ho]
   exact H.plain (b:=20) _ rfl rfl e1 e2 (by omega) (by omega) (fun _=>ho) (by omega)
  ·have hwl:wlk t:=⟨hpc.1,hpc.2,ho⟩
   obtain ⟨hw0,hwm,hwp⟩:=H.wm hwl
   obtain ⟨e,w,he⟩:=(Yv t.work).resolve_left hw0
   have htg:tgt t=e.h:=by unfold tgt;rw [he];rfl
   rw [Vw (t:={t with prev:=a,curr:=b}) hb ho he]
   have hm:∀ i,mkd m' i=mkd m i:=fun i=>by unfold mkd;rw [e2]
   generalize hq:(if w.length=0 then (62:Int) else 60)=q
   have hq2:q=62∨q=60:=by rw [←hq];split <;> simp
   clear hq
   have hp1:pend {t with prev:=a,curr:=b,limbo:=t.limbo++[e.h],work:=w,pc:=q}=[]:=pend_no (by dsimp only;omega)
   have hp2:pend t=[]:=pend_no (by omega)
   have hperm:List.Perm (Rt {t with prev:=a,curr:=b,limbo:=t.limbo++[e.h],work:=w,pc:=q}) (Rt t):=by
    unfold Rt
    rw [hp1,hp2,he]
    refine List.Perm.append_left _ (List.Perm.append_left _ ?_)
    dsimp only
    rw [←List.append_assoc,List.map_cons]
    exact List.perm_append_singleton _ _
   have hnw:¬wlk {t with prev:=a,curr:=b,limbo:=t.limbo++[e.h],work:=w,pc:=q}:=by unfold wlk;dsimp only;omega
   have hLK:LKs {t with prev:=a,curr:=b,limbo:=t.limbo++[e.h],work:=w,pc:=q}=LKs t:=by
    unfold LKs
    rw [hp1,hp2,if_neg hnw,if_pos hwl,he];rfl
   refine ⟨H.f1,H.f2,H.f3,fun x=>by dsimp only at x;omega,fun i hi x=>?_,(hperm.nodup_iff).2 H.r1,fun h hh=>?_,fun i hi ho=>?_,?_,fun x=>absurd x hnw,fun h hh=>?_,fun x=>absurd x hnw,fun x=>absurd x hnw,?_,?_,?_,?_,?_,?_,?_,?_,?_,?_,?_,fun _=>ho⟩
   ·have:=(H.p3 i hi x).1;omega
   ·rw [e1];exact H.r2 h (hperm.mem_iff.1 hh)
   ·rw [e1];exact hperm.mem_iff.2 (H.r3 i hi ho)
   ·rw [hLK];simp only [hm];exact H.lk
   ·rw [hm]
    rcases List.mem_append.1 hh with hh | hh
    ·exact H.lm h hh
    ·rw [List.mem_singleton.1 hh,←htg]
     refine ⟨hwm,fun k hk hin=>?_⟩
     have h1:=g.lp k hk _ hin
     rw [hwp] at h1
     injection h1 with h1
     have h2:=hw hwl (by rw [h1];exact hin)
     have h3:=(g.pk _ _ hwp).2.2
     rw [hb] at h2
     unfold sqn at h2
     rw [if_pos rfl] at h2
     omega
   all_goals try dsimp only
   all_goals omega
 ·rw [V9 (t:={t with prev:=a,curr:=b}) hb]
  refine H.keep (b:=11) _ rfl rfl e1 e2 (by omega) (by omega) (by omega) (fun x _ hin=>hw ⟨by omega,by omega,x.2.2⟩ hin) ?_ ?_ ?_ ?_ ?_ ?_ ?_ ?_ ?_ ?_ ?_ ?_ ?_
  all_goals try dsimp only
  all_goals first | omega | skip
  ·intro _ ha;exact hg ha
theorem ia10 (A:IA c m T G) (hp:(p:Int)<c.th) (T2:TV c (T p)) (h:(T p).pc=10):IA c m (upd T p (goOn {T p with prev:=0,curr:=unmk (m.hd (kk (T p)))})) G:=by
 have H:=A.t p hp
 have hk:=kk_lt T2 (by omega)
 refine A.reg hp (.no (by rcases goOn_pc (t:={T p with prev:=0,curr:=unmk (m.hd (kk (T p)))}) with h | h | h | h <;> omega)) rfl rfl rfl rfl (fun _ _ _ _=>rfl) ?_
 refine H.goOn A.g rfl rfl (by omega) _ _ (fun _ hin=>?_) (fun h=>absurd rfl h)
 rw [(A.g.ch _ hk).un]
 exact A.g.top hk hin
theorem Sc.wk {T':Nat→Th} {q:Nat} {h:Int} (H:Sc c T' q 0 h):Sc c T' q 1 h:=fun r hr h1 h2=>(H r hr h1 h2).imp (fun x=>x) (fun x=>by omega)
theorem ia15 (A:IA c m T G) (hp:(p:Int)<c.th) (T2:TV c (T p)) (h:(T p).pc=15):IA c {m with hz:=upd m.hz (2*p+1) (T p).curr} (upd T p (goOn {T p with prev:=(T p).curr,curr:=unmk (T p).next})) G:=by
 have H:=A.t p hp
 have hn:ScK m (T p) (goOn {T p with prev:=(T p).curr,curr:=unmk (T p).next}):=.no (by rcases goOn_pc (t:={T p with prev:=(T p).curr,curr:=unmk (T p).next}) with h | h | h | h <;> omega)
 obtain ⟨⟨i,hi,e1,e2,e3⟩,hz0,hsc⟩:=H.g0 (by omega)
 obtain ⟨w3a,w3b⟩:=H.w3 (by omega)
 have hu:unmk (T p).next=(T p).next:=by unfold unmk;rw [w3a];rfl
 refine A.reg hp hn rfl rfl rfl rfl (upd2 (by omega)) ?_
 refine H.goOn (m':={m with hz:=upd m.hz (2*p+1) (T p).curr}) A.g rfl rfl (by omega) _ _ (fun hw hin=>?_) (fun _=>⟨⟨i,hi,e1,e2,e3⟩,upd_s,?_⟩)
 ·rw [hu]
  obtain ⟨_,_,hwp⟩:=H.wm hw
  have h1:=H.w1 hw (by omega) hin
  have h2:=H.w2 hw h
  refine Classical.byContradiction fun hcon=>?_
  have h3:=w3b _ hin (by omega)
  rw [e1,A.g.sqv hi] at h1 h3
  have h4:=A.g.si i (ix (tgt (T p))) (by rw [e3];simp) (by rw [hwp];simp) (by omega)
  obtain ⟨e,he,he2,_⟩:=tgt_mem (H.wm hw).1
  obtain ⟨j,hj,e5,e6,_⟩:=H.r2 _ (Rt_work he)
  rw [he2] at e5 e6
  exact h2 (by rw [e1,e5,h4,e6])
 ·exact (hsc.up hz0 (by rw [e1];have:=A.g.pos hi;omega) hp hn).wk
theorem iaR (A:IA c m T G) {m':Mm} (hp:(p:Int)<c.th) {a:Int} (t':Th) (h:(T p).pc=a) (ha:16≤a∧a≤18) (hb:15≤t'.pc∧t'.pc≤19)
 (e1:m'.gn=m.gn:=by rfl) (e2:m'.ol=m.ol:=by rfl) (e3:m'.hd=m.hd:=by rfl) (e4:m'.ar=m.ar:=by rfl) (e5:m'.hz=m.hz:=by rfl)
 (ho:t'.op=(T p).op:=by rfl) (hf:t'.free=(T p).free:=by rfl) (hb2:t'.buf=(T p).buf:=by rfl) (hw:t'.work=(T p).work:=by rfl) (hl2:t'.limbo=(T p).limbo:=by rfl) (hn2:t'.node=(T p).node:=by rfl)
 (hc:t'.curr=(T p).curr:=by rfl) (hv:t'.prev=(T p).prev:=by rfl) (hx:t'.next=(T p).next:=by rfl):IA c m' (upd T p t') G:=by
 have H:=A.t p hp
 have hk2:=H.rd (by omega)
 have hn:ScK m (T p) t':=.no (by omega)
 refine A.reg hp hn e1 e2 e3 e4 (fun _ _ _ _=>by rw [e5]) ?_
 have hnw:¬wlk t':=fun x=>x.2.2 (by rw [ho];exact hk2)
 refine H.keep (b:=t'.pc) _ h rfl e1 e2 (by omega) (by omega) (.inl hk2) (fun x=>absurd x hnw) (fun x=>absurd x hnw) ?_ ?_ ?_ ?_ ?_ ?_ ?_ ?_ ?_ ?_ ?_ (by omega) ho hf hb2 hw hl2 hn2
 ·intro _
  rw [hx,hc,kk_eq ho hw]
  exact H.w3 (by omega)
 ·omega
 ·intro _;rw [hc,kk_eq ho hw];exact (H.g0 (by omega)).to A.g hp hn e1 (by rw [e5])
 ·intro _;rw [hv,kk_eq ho hw];intro hv0;exact (H.gp (by omega) hv0).to A.g hp hn e1 (by rw [e5])
 ·omega
 ·omega
 ·omega
 ·omega
 ·omega
 ·omega
 ·intro _;exact hk2
theorem iaW (A:IA c m T G) {m':Mm} (hp:(p:Int)<c.th) {a b:Int} (t':Th) (h:(T p).pc=a) (h':t'.pc=b) (ha:32≤a∧a≤42) (hb:32≤b∧b≤42)
 (gc:38≤b→t'.curr≠0→Gd c m' (upd T p t') G p 0 t'.curr (ok t')) (z0:b=37→m'.hz (2*p+0)=t'.curr) (z1:35≤b→m'.hz (2*p+1)=(T p).node) (nz:b=36∨b=37→t'.curr≠0) (pu:b=42→m'.ol (ix (T p).node)=t'.curr)
 (e5:∀ q,q≠p→∀ j,j≤1→m'.hz (2*q+j)=m.hz (2*q+j))
 (e1:m'.gn=m.gn:=by rfl) (e2:m'.ol=m.ol:=by rfl) (e3:m'.hd=m.hd:=by rfl) (e4:m'.ar=m.ar:=by rfl)
 (ho:t'.op=(T p).op:=by rfl) (hf:t'.free=(T p).free:=by rfl) (hb2:t'.buf=(T p).buf:=by rfl) (hw:t'.work=(T p).work:=by rfl) (hl2:t'.limbo=(T p).limbo:=by rfl) (hn2:t'.node=(T p).node:=by rfl):IA c m' (upd T p t') G:=by
 have H:=A.t p hp
 have hn:ScK m (T p) t':=.no (by omega)
 refine A.reg hp hn e1 e2 e3 e4 e5 ?_
 have hnw:¬wlk t':=fun x=>by have:=x.2.1;omega
 refine H.keep (b:=b) _ h h' e1 e2 (by omega) (by omega) (by omega) (fun x=>absurd x hnw) (fun x=>absurd x hnw) (by omega) (by omega) (by omega) (by omega) ?_ (by omega) ?_ ?_ ?_ ?_ (by omega) (by omega) ho hf hb2 hw hl2 hn2
 ·intro x y;exact gc (by omega) y
 ·intro x;exact z0 (by omega)
 ·intro x;rw [hn2];exact z1 (by omega)
 ·intro x;exact nz (by omega)
 ·intro x;rw [hn2];exact pu (by omega)
theorem iaP (A:IA c m T G) {m':Mm} (hp:(p:Int)<c.th) {a b:Int} (t':Th) (h:(T p).pc=a) (h':t'.pc=b) (ha:43≤a∧a≤44) (hb:43≤b∧b≤45)
 (e1:m'.gn=m.gn:=by rfl) (e2:m'.ol=m.ol:=by rfl) (e3:m'.hd=m.hd:=by rfl) (e4:m'.ar=m.ar:=by rfl) (e5:m'.hz=m.hz:=by rfl)
 (ho:t'.op=(T p).op:=by rfl) (hf:t'.free=(T p).free:=by rfl) (hb2:t'.buf=(T p).buf:=by rfl) (hw:t'.work=(T p).work:=by rfl) (hl2:t'.limbo=(T p).limbo:=by rfl) (hn2:t'.node=(T p).node:=by rfl)
 (hc:t'.curr=(T p).curr:=by rfl):IA c m' (upd T p t') G:=by
 have H:=A.t p hp
 have hn:ScK m (T p) t':=.no (by omega)
 refine A.reg hp hn e1 e2 e3 e4 (fun _ _ _ _=>by rw [e5]) ?_
 have hnw:¬wlk t':=fun x=>by have:=x.2.1;omega
 refine H.keep (b:=b) _ h h' e1 e2 ⟨by omega,fun _=>hc⟩ (by omega) (by omega) (fun x=>absurd x hnw) (fun x=>absurd x hnw) (by omega) (by omega) (by omega) (by omega) (by omega) ?_ (by omega) (by omega) (by omega) (by omega) (by omega) (by omega) ho hf hb2 hw hl2 hn2
 intro _
 rw [hn2,show ok t'=ok (T p) by unfold ok;rw [ho]]
 exact (H.gn (by omega)).to A.g hp hn e1 (by rw [e5])
end
end
end Go.Proofs.YtbploohjimpcaaaGreat.A
