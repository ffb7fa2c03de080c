/- The tables of the abstract machine for this program. -/
import Derived.Test.YtpmlbimlndphhaaProg
import Derived.KernelRfl
import Derived.Test.YtpmlbimlndphhaaLib3
namespace Go.Proofs.Ytpmlbimlndphhaa.A
open Go Go.Abs
def ty3 : TInfo := ⟨.int .i64, 1, 8, [.int .i64 0]⟩
def ty4 : TInfo := ⟨.bool, 1, 1, [.bool false]⟩
def ty9 : TInfo := ⟨.str, 1, 16, [.str ⟨#[]⟩]⟩
def ty23 : TInfo := ⟨.struct [(0, 3), (1, 3), (2, 3), (3, 3), (4, 3), (5, 3)], 6, 48, [.int .i64 0, .int .i64 0, .int .i64 0, .int .i64 0, .int .i64 0, .int .i64 0]⟩
def ty24 : TInfo := ⟨.slice 3, 1, 24, [.lst 1 []]⟩
def ty25 : TInfo := ⟨.slice 76, 1, 24, [.lst 19 []]⟩
def ty27 : TInfo := ⟨.struct [(0, 23), (6, 24), (7, 24), (8, 25), (9, 3), (10, 3), (11, 3), (12, 3)], 13, 152, [.int .i64 0, .int .i64 0, .int .i64 0, .int .i64 0, .int .i64 0, .int .i64 0, .lst 1 [], .lst 1 [], .lst 19 [], .int .i64 0, .int .i64 0, .int .i64 0, .int .i64 0]⟩
def ty30 : TInfo := ⟨.struct [(0, 3), (1, 3), (2, 3), (3, 3), (4, 3), (5, 3)], 6, 48, [.int .i64 0, .int .i64 0, .int .i64 0, .int .i64 0, .int .i64 0, .int .i64 0]⟩
def ty31 : TInfo := ⟨.slice 52, 1, 24, [.lst 19 []]⟩
def ty33 : TInfo := ⟨.struct [(0, 30), (6, 24), (7, 24), (8, 31), (9, 3), (10, 3), (11, 3), (12, 3)], 13, 152, [.int .i64 0, .int .i64 0, .int .i64 0, .int .i64 0, .int .i64 0, .int .i64 0, .lst 1 [], .lst 1 [], .lst 19 [], .int .i64 0, .int .i64 0, .int .i64 0, .int .i64 0]⟩
def ty47 : TInfo := ⟨.struct [(0, 3), (1, 3), (2, 3)], 3, 24, [.int .i64 0, .int .i64 0, .int .i64 0]⟩
def ty49 : TInfo := ⟨.struct [(0, 3), (1, 3)], 2, 16, [.int .i64 0, .int .i64 0]⟩
def ty50 : TInfo := ⟨.slice 90, 1, 24, [.lst 4 []]⟩
def ty52 : TInfo := ⟨.struct [(0, 3), (1, 47), (4, 49), (6, 3), (7, 3), (8, 3), (9, 3), (10, 3), (11, 3), (12, 3), (13, 3), (14, 24), (15, 24), (16, 50), (17, 50), (18, 24)], 19, 232, [.int .i64 0, .int .i64 0, .int .i64 0, .int .i64 0, .int .i64 0, .int .i64 0, .int .i64 0, .int .i64 0, .int .i64 0, .int .i64 0, .int .i64 0, .int .i64 0, .int .i64 0, .int .i64 0, .lst 1 [], .lst 1 [], .lst 4 [], .lst 4 [], .lst 1 []]⟩
def ty58 : TInfo := ⟨.func, 1, 8, [.nilf]⟩
def ty63 : TInfo := ⟨.ptr 33, 1, 8, [.nilp]⟩
def ty72 : TInfo := ⟨.struct [(0, 3), (1, 3), (2, 3)], 3, 24, [.int .i64 0, .int .i64 0, .int .i64 0]⟩
def ty73 : TInfo := ⟨.struct [(0, 3), (1, 3)], 2, 16, [.int .i64 0, .int .i64 0]⟩
def ty74 : TInfo := ⟨.slice 111, 1, 24, [.lst 4 []]⟩
def ty76 : TInfo := ⟨.struct [(0, 3), (1, 72), (4, 73), (6, 3), (7, 3), (8, 3), (9, 3), (10, 3), (11, 3), (12, 3), (13, 3), (14, 24), (15, 24), (16, 74), (17, 74), (18, 24)], 19, 232, [.int .i64 0, .int .i64 0, .int .i64 0, .int .i64 0, .int .i64 0, .int .i64 0, .int .i64 0, .int .i64 0, .int .i64 0, .int .i64 0, .int .i64 0, .int .i64 0, .int .i64 0, .int .i64 0, .lst 1 [], .lst 1 [], .lst 4 [], .lst 4 [], .lst 1 []]⟩
def ty82 : TInfo := ⟨.func, 1, 8, [.nilf]⟩
def ty90 : TInfo := ⟨.struct [(0, 3), (1, 3), (2, 3), (3, 3)], 4, 32, [.int .i64 0, .int .i64 0, .int .i64 0, .int .i64 0]⟩
def ty91 : TInfo := ⟨.slice 4, 1, 24, [.lst 1 []]⟩
def ty92 : TInfo := ⟨.func, 1, 8, [.nilf]⟩
def ty97 : TInfo := ⟨.func, 1, 8, [.nilf]⟩
def ty111 : TInfo := ⟨.struct [(0, 3), (1, 3), (2, 3), (3, 3)], 4, 32, [.int .i64 0, .int .i64 0, .int .i64 0, .int .i64 0]⟩
def ty116 : TInfo := ⟨.slice 9, 1, 24, [.lst 1 []]⟩
def tys : List (TypeId × TInfo) := [
  (3, ty3),
  (4, ty4),
  (9, ty9),
  (23, ty23),
  (24, ty24),
  (25, ty25),
  (27, ty27),
  (30, ty30),
  (31, ty31),
  (33, ty33),
  (47, ty47),
  (49, ty49),
  (50, ty50),
  (52, ty52),
  (58, ty58),
  (63, ty63),
  (72, ty72),
  (73, ty73),
  (74, ty74),
  (76, ty76),
  (82, ty82),
  (90, ty90),
  (91, ty91),
  (92, ty92),
  (97, ty97),
  (111, ty111),
  (116, ty116)]
noncomputable def fns : List (FuncId × Func) := [(3, Try.f3), (4, Try.f4), (5, Try.f5), (6, Try.f6), (7, Try.f7), (8, Try.f8), (9, Try.f9), (10, Try.f10), (11, Try.f11), (12, Try.f12), (13, Try.f13), (14, Try.f14), (15, Try.f15), (16, Try.f16), (17, Try.f17), (18, Try.f18), (19, Try.f19), (20, Try.f20), (21, Try.f21), (22, Try.f22), (23, Try.f23), (24, Try.f24), (25, Try.f25), (26, Try.f26), (27, Try.f27), (28, Try.f28), (29, Try.f29), (30, Try.f30), (31, Try.f31), (32, Try.f32), (33, Try.f33), (34, Try.f34), (35, Try.f35), (36, Try.f36), (37, Try.f37), (38, Try.f38), (39, Try.f39), (40, Try.f40), (41, Try.f41), (42, Try.f42), (43, Try.f43), (44, Try.f44), (45, Try.f45), (46, Try.f46), (47, Try.f47), (48, Try.f48), (49, Try.f49), (50, Try.f50), (51, Try.f51), (52, Try.f52), (53, Try.f53), (54, Try.f54), (55, Try.f55), (56, Try.f56), (57, Try.f57), (58, Try.f58), (59, Try.f59), (60, Try.f60), (61, Try.f61), (62, Try.f62), (63, Try.f63), (64, Try.f64), (65, Try.f65), (66, Try.f66), (67, Try.f67), (68, Try.f68), (69, Try.f69), (70, Try.f70), (71, Try.f71), (72, Try.f72), (73, Try.f73), (74, Try.f74), (75, Try.f75), (76, Try.f76), (77, Try.f77), (78, Try.f78), (79, Try.f79), (80, Try.f80), (81, Try.f81), (82, Try.f82), (83, Try.f83), (84, Try.f84), (85, Try.f85), (86, Try.f86), (87, Try.f87), (88, Try.f88), (89, Try.f89), (90, Try.f90), (91, Try.f91), (92, Try.f92), (93, Try.f93), (94, Try.f94), (95, Try.f95), (96, Try.f96), (97, Try.f97), (98, Try.f98), (99, Try.f99), (100, Try.f100), (101, Try.f101), (102, Try.f102), (103, Try.f103), (104, Try.f104), (105, Try.f105), (106, Try.f106), (107, Try.f107), (108, Try.f108), (109, Try.f109), (110, Try.f110), (111, Try.f111), (112, Try.f112), (113, Try.f113), (114, Try.f114), (115, Try.f115), (116, Try.f116), (117, Try.f117), (118, Try.f118), (119, Try.f119), (120, Try.f120), (121, Try.f121), (122, Try.f122), (123, Try.f123), (124, Try.f124), (125, Try.f125), (126, Try.f126), (127, Try.f127), (128, Try.f128), (129, Try.f129), (130, Try.f130), (131, Try.f131)]
def inls : List FuncId := [22, 23, 50, 85, 88]
def noisy : List (Nat × Nat) := [(3, 10), (4, 10), (5, 10), (6, 10), (7, 10), (8, 10), (9, 10), (10, 10), (11, 10), (53, 2)]
def lives : List (FuncId × List (Nat × List Nat)) := [
  (13, [(3, [1, 3, 4])]),
  (15, [(5, [3, 10, 11, 12])]),
  (17, [(5, [1, 3, 4])]),
  (18, [(5, [3, 16, 17, 18])]),
  (19, [(3, [1, 3, 4])]),
  (20, [(5, [3, 11, 12, 13])]),
  (21, [(4, [0, 1, 5])]),
  (23, [(2, [0, 1, 5])]),
  (24, [(2, [0, 1, 5])]),
  (27, [(3, [1, 2, 5, 6])]),
  (28, [(5, [1, 5, 11, 12, 13])]),
  (31, [(5, [1, 2, 5, 6])]),
  (32, [(5, [1, 2, 5, 25, 26])]),
  (33, [(3, [1, 3, 4])]),
  (35, [(4, [1, 3, 4, 5]), (9, [1, 3, 4, 5, 6, 7, 8]), (13, [1, 3, 4, 5, 6, 7, 8, 9, 10]), (17, [1, 3, 4, 5, 6, 7, 8, 9, 10, 11, 12])]),
  (36, [(5, [1, 3, 16, 17]), (9, [1, 3, 4, 5, 16, 17, 22, 23, 24]), (14, [1, 3, 5, 16, 17, 36, 37, 38])]),
  (38, [(5, [0, 1, 5])]),
  (39, [(4, [1, 3]), (9, [1, 4]), (14, [1, 5]), (20, [1, 7])]),
  (42, [(3, [0, 3, 4])]),
  (43, [(3, [0, 3, 4])]),
  (44, [(7, [1, 3, 80, 81]), (13, [1, 3, 96, 97])]),
  (47, [(4, [0, 1, 5])]),
  (50, [(2, [0, 1, 5])]),
  (51, [(4, [1, 2, 6, 7, 8]), (8, [1, 2, 6, 7, 8, 9, 10]), (14, [1, 2, 6, 7, 8, 9, 11]), (25, [1, 2, 6, 7, 12]), (29, [1, 2, 6, 7, 12, 13, 14])]),
  (53, [(5, [0, 3, 4, 5, 6, 7, 38, 39]), (8, [0, 3, 4, 5, 6, 7, 38, 39, 44, 45, 46]), (14, [0, 3, 4, 5, 6, 7, 59, 60, 61]), (17, [0, 3, 4, 5, 6, 7, 12, 59, 60, 61, 66, 67, 68]), (22, [0, 3, 4, 5, 6, 7, 12, 59, 60, 61, 77, 78, 79]), (29, [0, 3, 4, 5, 6, 7, 59, 60, 61, 101, 102, 103]), (37, [0, 4, 5, 6, 7, 120, 121])]),
  (54, [(4, [2, 3, 8, 9, 10])]),
  (57, [(4, [2, 5, 6, 7])]),
  (58, [(4, [2, 5, 6, 7])]),
  (60, [(2, [0, 2, 12, 13, 14])]),
  (61, [(6, [0, 5, 7])]),
  (67, [(2, [2, 3, 5]), (7, [2, 3, 6])]),
  (85, [(2, [0, 1, 5])]),
  (86, [(2, [1, 2, 5]), (6, [1, 2, 5, 6, 7])]),
  (96, [(2, [0, 1, 7, 8])]),
  (102, [(2, [1, 2, 5])]),
  (105, [(3, [0, 3, 4])]),
  (108, [(2, [0, 1, 7, 8])]),
  (117, [(4, [0, 1, 5])]),
  (120, [(3, [0, 3, 4])]),
  (127, [(2, [0, 1, 7, 8])]),
  (131, [(2, [0, 1, 7, 8])])]
def iom : List (Nat × Nat) := []
def ios : List (Nat × Nat) := []
noncomputable def cfg : Cfg := ⟨tys, fns, fun f => if memN inls f then 1 else atN iom f 0, fun _ => true, fun f r => atN (atN lives f []) r [], 18446744073709551616, [], fun _ => none, fun f i => !memP noisy f i, fun f => atN ios f 0⟩
theorem tyok3 : TyOK Try.prog 3 ty3 := TyOK.of (cells := [.int .i64 0]) Try.underlying3 rfl (by kernel_rfl) rfl rfl rfl (by kernel_rfl) (by decide)
theorem tyok4 : TyOK Try.prog 4 ty4 := TyOK.of (cells := [.bool false]) Try.underlying4 rfl (by kernel_rfl) rfl rfl rfl (by kernel_rfl) (by decide)
theorem tyok9 : TyOK Try.prog 9 ty9 := TyOK.of (cells := [.string ⟨#[]⟩]) Try.underlying9 rfl (by kernel_rfl) rfl rfl rfl (by kernel_rfl) (by decide)
theorem tyok23 : TyOK Try.prog 23 ty23 := TyOK.of (cells := [.int .i64 0, .int .i64 0, .int .i64 0, .int .i64 0, .int .i64 0, .int .i64 0]) Try.underlying23 ⟨_, rfl, rfl⟩ (by kernel_rfl) rfl rfl rfl (by kernel_rfl) (by decide)
theorem tyok24 : TyOK Try.prog 24 ty24 := TyOK.of (cells := [.slice none 0 0]) Try.underlying24 rfl (by kernel_rfl) rfl rfl rfl (by kernel_rfl) (by decide)
theorem tyok25 : TyOK Try.prog 25 ty25 := TyOK.of (cells := [.slice none 0 0]) Try.underlying25 rfl (by kernel_rfl) rfl rfl rfl (by kernel_rfl) (by decide)
theorem tyok27 : TyOK Try.prog 27 ty27 := TyOK.of (cells := [.int .i64 0, .int .i64 0, .int .i64 0, .int .i64 0, .int .i64 0, .int .i64 0, .slice none 0 0, .slice none 0 0, .slice none 0 0, .int .i64 0, .int .i64 0, .int .i64 0, .int .i64 0]) Try.underlying27 ⟨_, rfl, rfl⟩ (by kernel_rfl) rfl rfl rfl (by kernel_rfl) (by decide)
theorem tyok30 : TyOK Try.prog 30 ty30 := TyOK.of (cells := [.int .i64 0, .int .i64 0, .int .i64 0, .int .i64 0, .int .i64 0, .int .i64 0]) Try.underlying30 ⟨_, rfl, rfl⟩ (by kernel_rfl) rfl rfl rfl (by kernel_rfl) (by decide)
theorem tyok31 : TyOK Try.prog 31 ty31 := TyOK.of (cells := [.slice none 0 0]) Try.underlying31 rfl (by kernel_rfl) rfl rfl rfl (by kernel_rfl) (by decide)
theorem tyok33 : TyOK Try.prog 33 ty33 := TyOK.of (cells := [.int .i64 0, .int .i64 0, .int .i64 0, .int .i64 0, .int .i64 0, .int .i64 0, .slice none 0 0, .slice none 0 0, .slice none 0 0, .int .i64 0, .int .i64 0, .int .i64 0, .int .i64 0]) Try.underlying33 ⟨_, rfl, rfl⟩ (by kernel_rfl) rfl rfl rfl (by kernel_rfl) (by decide)
theorem tyok47 : TyOK Try.prog 47 ty47 := TyOK.of (cells := [.int .i64 0, .int .i64 0, .int .i64 0]) Try.underlying47 ⟨_, rfl, rfl⟩ (by kernel_rfl) rfl rfl rfl (by kernel_rfl) (by decide)
theorem tyok49 : TyOK Try.prog 49 ty49 := TyOK.of (cells := [.int .i64 0, .int .i64 0]) Try.underlying49 ⟨_, rfl, rfl⟩ (by kernel_rfl) rfl rfl rfl (by kernel_rfl) (by decide)
theorem tyok50 : TyOK Try.prog 50 ty50 := TyOK.of (cells := [.slice none 0 0]) Try.underlying50 rfl (by kernel_rfl) rfl rfl rfl (by kernel_rfl) (by decide)
theorem tyok52 : TyOK Try.prog 52 ty52 := TyOK.of (cells := [.int .i64 0, .int .i64 0, .int .i64 0, .int .i64 0, .int .i64 0, .int .i64 0, .int .i64 0, .int .i64 0, .int .i64 0, .int .i64 0, .int .i64 0, .int .i64 0, .int .i64 0, .int .i64 0, .slice none 0 0, .slice none 0 0, .slice none 0 0, .slice none 0 0, .slice none 0 0]) Try.underlying52 ⟨_, rfl, rfl⟩ (by kernel_rfl) rfl rfl rfl (by kernel_rfl) (by decide)
theorem tyok58 : TyOK Try.prog 58 ty58 := TyOK.of (cells := [.nilFunc]) Try.underlying58 ⟨_, _, _, rfl⟩ (by kernel_rfl) rfl rfl rfl (by kernel_rfl) (by decide)
theorem tyok63 : TyOK Try.prog 63 ty63 := TyOK.of (cells := [.pointer none]) Try.underlying63 rfl (by kernel_rfl) rfl rfl rfl (by kernel_rfl) (by decide)
theorem tyok72 : TyOK Try.prog 72 ty72 := TyOK.of (cells := [.int .i64 0, .int .i64 0, .int .i64 0]) Try.underlying72 ⟨_, rfl, rfl⟩ (by kernel_rfl) rfl rfl rfl (by kernel_rfl) (by decide)
theorem tyok73 : TyOK Try.prog 73 ty73 := TyOK.of (cells := [.int .i64 0, .int .i64 0]) Try.underlying73 ⟨_, rfl, rfl⟩ (by kernel_rfl) rfl rfl rfl (by kernel_rfl) (by decide)
theorem tyok74 : TyOK Try.prog 74 ty74 := TyOK.of (cells := [.slice none 0 0]) Try.underlying74 rfl (by kernel_rfl) rfl rfl rfl (by kernel_rfl) (by decide)
theorem tyok76 : TyOK Try.prog 76 ty76 := TyOK.of (cells := [.int .i64 0, .int .i64 0, .int .i64 0, .int .i64 0, .int .i64 0, .int .i64 0, .int .i64 0, .int .i64 0, .int .i64 0, .int .i64 0, .int .i64 0, .int .i64 0, .int .i64 0, .int .i64 0, .slice none 0 0, .slice none 0 0, .slice none 0 0, .slice none 0 0, .slice none 0 0]) Try.underlying76 ⟨_, rfl, rfl⟩ (by kernel_rfl) rfl rfl rfl (by kernel_rfl) (by decide)
theorem tyok82 : TyOK Try.prog 82 ty82 := TyOK.of (cells := [.nilFunc]) Try.underlying82 ⟨_, _, _, rfl⟩ (by kernel_rfl) rfl rfl rfl (by kernel_rfl) (by decide)
theorem tyok90 : TyOK Try.prog 90 ty90 := TyOK.of (cells := [.int .i64 0, .int .i64 0, .int .i64 0, .int .i64 0]) Try.underlying90 ⟨_, rfl, rfl⟩ (by kernel_rfl) rfl rfl rfl (by kernel_rfl) (by decide)
theorem tyok91 : TyOK Try.prog 91 ty91 := TyOK.of (cells := [.slice none 0 0]) Try.underlying91 rfl (by kernel_rfl) rfl rfl rfl (by kernel_rfl) (by decide)
theorem tyok92 : TyOK Try.prog 92 ty92 := TyOK.of (cells := [.nilFunc]) Try.underlying92 ⟨_, _, _, rfl⟩ (by kernel_rfl) rfl rfl rfl (by kernel_rfl) (by decide)
theorem tyok97 : TyOK Try.prog 97 ty97 := TyOK.of (cells := [.nilFunc]) Try.underlying97 ⟨_, _, _, rfl⟩ (by kernel_rfl) rfl rfl rfl (by kernel_rfl) (by decide)
theorem tyok111 : TyOK Try.prog 111 ty111 := TyOK.of (cells := [.int .i64 0, .int .i64 0, .int .i64 0, .int .i64 0]) Try.underlying111 ⟨_, rfl, rfl⟩ (by kernel_rfl) rfl rfl rfl (by kernel_rfl) (by decide)
theorem tyok116 : TyOK Try.prog 116 ty116 := TyOK.of (cells := [.slice none 0 0]) Try.underlying116 rfl (by kernel_rfl) rfl rfl rfl (by kernel_rfl) (by decide)
theorem tys_ok : TysOK Try.prog tys := by
  intro y hy
  simp only [tys, List.mem_cons, List.not_mem_nil, or_false] at hy
  rcases hy with rfl | rfl | rfl | rfl | rfl | rfl | rfl | rfl | rfl | rfl | rfl | rfl | rfl | rfl | rfl | rfl | rfl | rfl | rfl | rfl | rfl | rfl | rfl | rfl | rfl | rfl | rfl
  · exact tyok3
  · exact tyok4
  · exact tyok9
  · exact tyok23
  · exact tyok24
  · exact tyok25
  · exact tyok27
  · exact tyok30
  · exact tyok31
  · exact tyok33
  · exact tyok47
  · exact tyok49
  · exact tyok50
  · exact tyok52
  · exact tyok58
  · exact tyok63
  · exact tyok72
  · exact tyok73
  · exact tyok74
  · exact tyok76
  · exact tyok82
  · exact tyok90
  · exact tyok91
  · exact tyok92
  · exact tyok97
  · exact tyok111
  · exact tyok116
theorem funcs_ok : ∀ y ∈ fns, Try.prog.funcs[y.1]? = some y.2 := by
  intro y hy
  simp only [fns, List.mem_cons, List.not_mem_nil, or_false] at hy
  rcases hy with rfl | rfl | rfl | rfl | rfl | rfl | rfl | rfl | rfl | rfl | rfl | rfl | rfl | rfl | rfl | rfl | rfl | rfl | rfl | rfl | rfl | rfl | rfl | rfl | rfl | rfl | rfl | rfl | rfl | rfl | rfl | rfl | rfl | rfl | rfl | rfl | rfl | rfl | rfl | rfl | rfl | rfl | rfl | rfl | rfl | rfl | rfl | rfl | rfl | rfl | rfl | rfl | rfl | rfl | rfl | rfl | rfl | rfl | rfl | rfl | rfl | rfl | rfl | rfl | rfl | rfl | rfl | rfl | rfl | rfl | rfl | rfl | rfl | rfl | rfl | rfl | rfl | rfl | rfl | rfl | rfl | rfl | rfl | rfl | rfl | rfl | rfl | rfl | rfl | rfl | rfl | rfl | rfl | rfl | rfl | rfl | rfl | rfl | rfl | rfl | rfl | rfl | rfl | rfl | rfl | rfl | rfl | rfl | rfl | rfl | rfl | rfl | rfl | rfl | rfl | rfl | rfl | rfl | rfl | rfl | rfl | rfl | rfl | rfl | rfl | rfl | rfl | rfl | rfl
  · exact Try.func3
  · exact Try.func4
  · exact Try.func5
  · exact Try.func6
  · exact Try.func7
  · exact Try.func8
  · exact Try.func9
  · exact Try.func10
  · exact Try.func11
  · exact Try.func12
  · exact Try.func13
  · exact Try.func14
  · exact Try.func15
  · exact Try.func16
  · exact Try.func17
  · exact Try.func18
  · exact Try.func19
  · exact Try.func20
  · exact Try.func21
  · exact Try.func22
  · exact Try.func23
  · exact Try.func24
  · exact Try.func25
  · exact Try.func26
  · exact Try.func27
  · exact Try.func28
  · exact Try.func29
  · exact Try.func30
  · exact Try.func31
  · exact Try.func32
  · exact Try.func33
  · exact Try.func34
  · exact Try.func35
  · exact Try.func36
  · exact Try.func37
  · exact Try.func38
  · exact Try.func39
  · exact Try.func40
  · exact Try.func41
  · exact Try.func42
  · exact Try.func43
  · exact Try.func44
  · exact Try.func45
  · exact Try.func46
  · exact Try.func47
  · exact Try.func48
  · exact Try.func49
  · exact Try.func50
  · exact Try.func51
  · exact Try.func52
  · exact Try.func53
  · exact Try.func54
  · exact Try.func55
  · exact Try.func56
  · exact Try.func57
  · exact Try.func58
  · exact Try.func59
  · exact Try.func60
  · exact Try.func61
  · exact Try.func62
  · exact Try.func63
  · exact Try.func64
  · exact Try.func65
  · exact Try.func66
  · exact Try.func67
  · exact Try.func68
  · exact Try.func69
  · exact Try.func70
  · exact Try.func71
  · exact Try.func72
  · exact Try.func73
  · exact Try.func74
  · exact Try.func75
  · exact Try.func76
  · exact Try.func77
  · exact Try.func78
  · exact Try.func79
  · exact Try.func80
  · exact Try.func81
  · exact Try.func82
  · exact Try.func83
  · exact Try.func84
  · exact Try.func85
  · exact Try.func86
  · exact Try.func87
  · exact Try.func88
  · exact Try.func89
  · exact Try.func90
  · exact Try.func91
  · exact Try.func92
  · exact Try.func93
  · exact Try.func94
  · exact Try.func95
  · exact Try.func96
  · exact Try.func97
  · exact Try.func98
  · exact Try.func99
  · exact Try.func100
  · exact Try.func101
  · exact Try.func102
  · exact Try.func103
  · exact Try.func104
  · exact Try.func105
  · exact Try.func106
  · exact Try.func107
  · exact Try.func108
  · exact Try.func109
  · exact Try.func110
  · exact Try.func111
  · exact Try.func112
  · exact Try.func113
  · exact Try.func114
  · exact Try.func115
  · exact Try.func116
  · exact Try.func117
  · exact Try.func118
  · exact Try.func119
  · exact Try.func120
  · exact Try.func121
  · exact Try.func122
  · exact Try.func123
  · exact Try.func124
  · exact Try.func125
  · exact Try.func126
  · exact Try.func127
  · exact Try.func128
  · exact Try.func129
  · exact Try.func130
  · exact Try.func131
theorem chk : fns.all (fnChk cfg) = true := by kernel_rfl
theorem cfg_ok : CfgOK Try.prog envAny cfg := ⟨tys_ok, fun _ h => (nomatch h), fns_ok funcs_ok chk, fun _ _ h => (nomatch h)⟩
end Go.Proofs.Ytpmlbimlndphhaa.A
