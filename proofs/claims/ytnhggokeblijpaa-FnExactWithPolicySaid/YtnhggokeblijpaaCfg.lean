/- The tables of the abstract machine for this program. -/
import Derived.Test.YtnhggokeblijpaaProg
import Derived.KernelRfl
import Derived.Test.YtnhggokeblijpaaAbs3
namespace Go.Proofs.Ytnhggokeblijpaa.A
open Go Go.Abs
def ty3 : TInfo := ⟨.int .i64, 1, 8, [.int .i64 0]⟩
def ty4 : TInfo := ⟨.bool, 1, 1, [.bool false]⟩
def ty9 : TInfo := ⟨.str, 1, 16, [.str ⟨#[]⟩]⟩
def ty23 : TInfo := ⟨.func, 1, 8, [.nilf]⟩
def ty25 : TInfo := ⟨.struct [(0, 3), (1, 3), (2, 3), (3, 3), (4, 3), (5, 3)], 6, 48, [.int .i64 0, .int .i64 0, .int .i64 0, .int .i64 0, .int .i64 0, .int .i64 0]⟩
def ty27 : TInfo := ⟨.struct [(0, 3), (1, 3), (2, 3), (3, 3), (4, 3), (5, 3)], 6, 48, [.int .i64 0, .int .i64 0, .int .i64 0, .int .i64 0, .int .i64 0, .int .i64 0]⟩
def ty30 : TInfo := ⟨.slice 62, 1, 24, [.lst 1 []]⟩
def ty31 : TInfo := ⟨.slice 3, 1, 24, [.lst 1 []]⟩
def ty33 : TInfo := ⟨.struct [(0, 25), (6, 30), (7, 31)], 8, 96, [.int .i64 0, .int .i64 0, .int .i64 0, .int .i64 0, .int .i64 0, .int .i64 0, .lst 1 [], .lst 1 []]⟩
def ty36 : TInfo := ⟨.slice 51, 1, 24, [.lst 1 []]⟩
def ty38 : TInfo := ⟨.struct [(0, 27), (6, 36), (7, 31)], 8, 96, [.int .i64 0, .int .i64 0, .int .i64 0, .int .i64 0, .int .i64 0, .int .i64 0, .lst 1 [], .lst 1 []]⟩
def ty46 : TInfo := ⟨.slice 9, 1, 24, [.lst 1 []]⟩
def ty50 : TInfo := ⟨.func, 1, 8, [.nilf]⟩
def ty51 : TInfo := ⟨.slice 65, 1, 24, [.lst 3 []]⟩
def ty62 : TInfo := ⟨.slice 73, 1, 24, [.lst 3 []]⟩
def ty65 : TInfo := ⟨.struct [(0, 3), (1, 3), (2, 3)], 3, 24, [.int .i64 0, .int .i64 0, .int .i64 0]⟩
def ty73 : TInfo := ⟨.struct [(0, 3), (1, 3), (2, 3)], 3, 24, [.int .i64 0, .int .i64 0, .int .i64 0]⟩
def tys : List (TypeId × TInfo) := [
  (3, ty3),
  (4, ty4),
  (9, ty9),
  (23, ty23),
  (25, ty25),
  (27, ty27),
  (30, ty30),
  (31, ty31),
  (33, ty33),
  (36, ty36),
  (38, ty38),
  (46, ty46),
  (50, ty50),
  (51, ty51),
  (62, ty62),
  (65, ty65),
  (73, ty73)]
noncomputable def fns : List (FuncId × Func) := [(3, Try.f3), (4, Try.f4), (5, Try.f5), (6, Try.f6), (7, Try.f7), (8, Try.f8), (9, Try.f9), (10, Try.f10), (11, Try.f11), (12, Try.f12), (13, Try.f13), (14, Try.f14), (15, Try.f15), (16, Try.f16), (17, Try.f17), (18, Try.f18), (19, Try.f19), (20, Try.f20), (21, Try.f21), (22, Try.f22), (23, Try.f23), (24, Try.f24), (25, Try.f25), (26, Try.f26), (27, Try.f27), (28, Try.f28), (29, Try.f29), (30, Try.f30), (31, Try.f31), (32, Try.f32), (33, Try.f33), (34, Try.f34), (35, Try.f35), (36, Try.f36), (37, Try.f37), (38, Try.f38), (39, Try.f39), (40, Try.f40), (41, Try.f41), (42, Try.f42), (43, Try.f43), (44, Try.f44), (45, Try.f45), (46, Try.f46), (47, Try.f47), (48, Try.f48), (49, Try.f49), (50, Try.f50), (51, Try.f51), (52, Try.f52), (53, Try.f53), (54, Try.f54), (55, Try.f55), (56, Try.f56)]
def inls : List FuncId := [19, 38, 39, 51]
def noisy : List (Nat × Nat) := [(5, 10), (6, 10), (17, 1), (17, 6), (18, 1)]
def lives : List (FuncId × List (Nat × List Nat)) := [
  (13, [(4, [1, 3]), (9, [1, 4])]),
  (17, [(4, [2, 4, 5, 6])]),
  (25, [(5, [0, 1, 5])]),
  (27, [(2, [0, 3])]),
  (28, [(3, [0, 3, 4])]),
  (29, [(3, [0, 3, 4])]),
  (34, [(4, [0, 1, 5])]),
  (35, [(4, [0, 1, 5])]),
  (36, [(3, [3, 7, 8, 9])]),
  (38, [(2, [0, 1, 5])]),
  (39, [(2, [0, 1, 5])]),
  (40, [(2, [0, 1, 5])]),
  (41, [(2, [0, 1, 5])]),
  (44, [(3, [0, 3, 4])]),
  (47, [(2, [0, 5, 6, 7])]),
  (48, [(2, [0, 1, 7, 8])]),
  (49, [(4, [0, 1, 5])]),
  (51, [(2, [0, 1, 5])]),
  (52, [(2, [0, 1, 5])]),
  (54, [(2, [0, 1, 7, 8])])]
noncomputable def cfg : Cfg := ⟨tys, fns, fun f => if memN inls f then 1 else 0, fun _ => true, fun f r => atN (atN lives f []) r [], 18446744073709551616, [], fun _ => none, fun f i => !memP noisy f i⟩
theorem tyok3 : TyOK Try.prog 3 ty3 := TyOK.of (cells := [.int .i64 0]) Try.underlying3 rfl (by kernel_rfl) rfl rfl rfl (by kernel_rfl) (by decide)
theorem tyok4 : TyOK Try.prog 4 ty4 := TyOK.of (cells := [.bool false]) Try.underlying4 rfl (by kernel_rfl) rfl rfl rfl (by kernel_rfl) (by decide)
theorem tyok9 : TyOK Try.prog 9 ty9 := TyOK.of (cells := [.string ⟨#[]⟩]) Try.underlying9 rfl (by kernel_rfl) rfl rfl rfl (by kernel_rfl) (by decide)
theorem tyok23 : TyOK Try.prog 23 ty23 := TyOK.of (cells := [.nilFunc]) Try.underlying23 ⟨_, _, _, rfl⟩ (by kernel_rfl) rfl rfl rfl (by kernel_rfl) (by decide)
theorem tyok25 : TyOK Try.prog 25 ty25 := TyOK.of (cells := [.int .i64 0, .int .i64 0, .int .i64 0, .int .i64 0, .int .i64 0, .int .i64 0]) Try.underlying25 ⟨_, rfl, rfl⟩ (by kernel_rfl) rfl rfl rfl (by kernel_rfl) (by decide)
theorem tyok27 : TyOK Try.prog 27 ty27 := TyOK.of (cells := [.int .i64 0, .int .i64 0, .int .i64 0, .int .i64 0, .int .i64 0, .int .i64 0]) Try.underlying27 ⟨_, rfl, rfl⟩ (by kernel_rfl) rfl rfl rfl (by kernel_rfl) (by decide)
theorem tyok30 : TyOK Try.prog 30 ty30 := TyOK.of (cells := [.slice none 0 0]) Try.underlying30 rfl (by kernel_rfl) rfl rfl rfl (by kernel_rfl) (by decide)
theorem tyok31 : TyOK Try.prog 31 ty31 := TyOK.of (cells := [.slice none 0 0]) Try.underlying31 rfl (by kernel_rfl) rfl rfl rfl (by kernel_rfl) (by decide)
theorem tyok33 : TyOK Try.prog 33 ty33 := TyOK.of (cells := [.int .i64 0, .int .i64 0, .int .i64 0, .int .i64 0, .int .i64 0, .int .i64 0, .slice none 0 0, .slice none 0 0]) Try.underlying33 ⟨_, rfl, rfl⟩ (by kernel_rfl) rfl rfl rfl (by kernel_rfl) (by decide)
theorem tyok36 : TyOK Try.prog 36 ty36 := TyOK.of (cells := [.slice none 0 0]) Try.underlying36 rfl (by kernel_rfl) rfl rfl rfl (by kernel_rfl) (by decide)
theorem tyok38 : TyOK Try.prog 38 ty38 := TyOK.of (cells := [.int .i64 0, .int .i64 0, .int .i64 0, .int .i64 0, .int .i64 0, .int .i64 0, .slice none 0 0, .slice none 0 0]) Try.underlying38 ⟨_, rfl, rfl⟩ (by kernel_rfl) rfl rfl rfl (by kernel_rfl) (by decide)
theorem tyok46 : TyOK Try.prog 46 ty46 := TyOK.of (cells := [.slice none 0 0]) Try.underlying46 rfl (by kernel_rfl) rfl rfl rfl (by kernel_rfl) (by decide)
theorem tyok50 : TyOK Try.prog 50 ty50 := TyOK.of (cells := [.nilFunc]) Try.underlying50 ⟨_, _, _, rfl⟩ (by kernel_rfl) rfl rfl rfl (by kernel_rfl) (by decide)
theorem tyok51 : TyOK Try.prog 51 ty51 := TyOK.of (cells := [.slice none 0 0]) Try.underlying51 rfl (by kernel_rfl) rfl rfl rfl (by kernel_rfl) (by decide)
theorem tyok62 : TyOK Try.prog 62 ty62 := TyOK.of (cells := [.slice none 0 0]) Try.underlying62 rfl (by kernel_rfl) rfl rfl rfl (by kernel_rfl) (by decide)
theorem tyok65 : TyOK Try.prog 65 ty65 := TyOK.of (cells := [.int .i64 0, .int .i64 0, .int .i64 0]) Try.underlying65 ⟨_, rfl, rfl⟩ (by kernel_rfl) rfl rfl rfl (by kernel_rfl) (by decide)
theorem tyok73 : TyOK Try.prog 73 ty73 := TyOK.of (cells := [.int .i64 0, .int .i64 0, .int .i64 0]) Try.underlying73 ⟨_, rfl, rfl⟩ (by kernel_rfl) rfl rfl rfl (by kernel_rfl) (by decide)
theorem tys_ok : TysOK Try.prog tys := by
  intro y hy
  simp only [tys, List.mem_cons, List.not_mem_nil, or_false] at hy
  rcases hy with rfl | rfl | rfl | rfl | rfl | rfl | rfl | rfl | rfl | rfl | rfl | rfl | rfl | rfl | rfl | rfl | rfl
  · exact tyok3
  · exact tyok4
  · exact tyok9
  · exact tyok23
  · exact tyok25
  · exact tyok27
  · exact tyok30
  · exact tyok31
  · exact tyok33
  · exact tyok36
  · exact tyok38
  · exact tyok46
  · exact tyok50
  · exact tyok51
  · exact tyok62
  · exact tyok65
  · exact tyok73
theorem funcs_ok : ∀ y ∈ fns, Try.prog.funcs[y.1]? = some y.2 := by
  intro y hy
  simp only [fns, List.mem_cons, List.not_mem_nil, or_false] at hy
  rcases hy with rfl | rfl | rfl | rfl | rfl | rfl | rfl | rfl | rfl | rfl | rfl | rfl | rfl | rfl | rfl | rfl | rfl | rfl | rfl | rfl | rfl | rfl | rfl | rfl | rfl | rfl | rfl | rfl | rfl | rfl | rfl | rfl | rfl | rfl | rfl | rfl | rfl | rfl | rfl | rfl | rfl | rfl | rfl | rfl | rfl | rfl | rfl | rfl | rfl | rfl | rfl | rfl | rfl | rfl
  · exact Try.func3
  · exact Try.func4
  · exact Try.func5
  · exact Try.func6
  · exact Try.func7
  · exact Try.func8
  · exact Try.func9
  · exact Try.func10
  · exact Try.func11
  · exact Try.func12
  · exact Try.func13
  · exact Try.func14
  · exact Try.func15
  · exact Try.func16
  · exact Try.func17
  · exact Try.func18
  · exact Try.func19
  · exact Try.func20
  · exact Try.func21
  · exact Try.func22
  · exact Try.func23
  · exact Try.func24
  · exact Try.func25
  · exact Try.func26
  · exact Try.func27
  · exact Try.func28
  · exact Try.func29
  · exact Try.func30
  · exact Try.func31
  · exact Try.func32
  · exact Try.func33
  · exact Try.func34
  · exact Try.func35
  · exact Try.func36
  · exact Try.func37
  · exact Try.func38
  · exact Try.func39
  · exact Try.func40
  · exact Try.func41
  · exact Try.func42
  · exact Try.func43
  · exact Try.func44
  · exact Try.func45
  · exact Try.func46
  · exact Try.func47
  · exact Try.func48
  · exact Try.func49
  · exact Try.func50
  · exact Try.func51
  · exact Try.func52
  · exact Try.func53
  · exact Try.func54
  · exact Try.func55
  · exact Try.func56
theorem chk : fns.all (fnChk cfg) = true := by kernel_rfl
theorem cfg_ok : CfgOK Try.prog envAny cfg := ⟨tys_ok, fun _ h => (nomatch h), fns_ok funcs_ok chk, fun _ _ h => (nomatch h)⟩
end Go.Proofs.Ytnhggokeblijpaa.A
