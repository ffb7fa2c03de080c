/- The tables of the abstract machine for this program. -/
import Derived.Test.YtpmlbimlndphhaaGreatProg
import Derived.KernelRfl
import Derived.Test.YtpmlbimlndphhaaGreatLib3
namespace Go.Proofs.YtpmlbimlndphhaaGreat.A
open Go Go.Abs
def ty3 : TInfo := ⟨.int .i64, 1, 8, [.int .i64 0]⟩
def ty4 : TInfo := ⟨.bool, 1, 1, [.bool false]⟩
def ty9 : TInfo := ⟨.str, 1, 16, [.str ⟨#[]⟩]⟩
def ty23 : TInfo := ⟨.struct [(0, 3), (1, 3), (2, 3), (3, 3), (4, 3), (5, 3)], 6, 48, [.int .i64 0, .int .i64 0, .int .i64 0, .int .i64 0, .int .i64 0, .int .i64 0]⟩
def ty24 : TInfo := ⟨.slice 3, 1, 24, [.lst 1 []]⟩
def ty25 : TInfo := ⟨.slice 92, 1, 24, [.lst 19 []]⟩
def ty27 : TInfo := ⟨.struct [(0, 23), (6, 24), (7, 24), (8, 25), (9, 3), (10, 3), (11, 3), (12, 3)], 13, 152, [.int .i64 0, .int .i64 0, .int .i64 0, .int .i64 0, .int .i64 0, .int .i64 0, .lst 1 [], .lst 1 [], .lst 19 [], .int .i64 0, .int .i64 0, .int .i64 0, .int .i64 0]⟩
def ty30 : TInfo := ⟨.struct [(0, 3), (1, 3), (2, 3), (3, 3), (4, 3), (5, 3)], 6, 48, [.int .i64 0, .int .i64 0, .int .i64 0, .int .i64 0, .int .i64 0, .int .i64 0]⟩
def ty31 : TInfo := ⟨.slice 100, 1, 24, [.lst 19 []]⟩
def ty33 : TInfo := ⟨.struct [(0, 30), (6, 24), (7, 24), (8, 31), (9, 3), (10, 3), (11, 3), (12, 3)], 13, 152, [.int .i64 0, .int .i64 0, .int .i64 0, .int .i64 0, .int .i64 0, .int .i64 0, .lst 1 [], .lst 1 [], .lst 19 [], .int .i64 0, .int .i64 0, .int .i64 0, .int .i64 0]⟩
def ty41 : TInfo := ⟨.slice 114, 1, 24, [.lst 1 []]⟩
def ty42 : TInfo := ⟨.slice 125, 1, 24, [.lst 8 []]⟩
def ty44 : TInfo := ⟨.struct [(0, 27), (13, 41), (14, 24), (15, 42), (16, 3)], 17, 232, [.int .i64 0, .int .i64 0, .int .i64 0, .int .i64 0, .int .i64 0, .int .i64 0, .lst 1 [], .lst 1 [], .lst 19 [], .int .i64 0, .int .i64 0, .int .i64 0, .int .i64 0, .lst 1 [], .lst 1 [], .lst 8 [], .int .i64 0]⟩
def ty46 : TInfo := ⟨.slice 115, 1, 24, [.lst 1 []]⟩
def ty47 : TInfo := ⟨.slice 121, 1, 24, [.lst 8 []]⟩
def ty49 : TInfo := ⟨.struct [(0, 33), (13, 46), (14, 24), (15, 47), (16, 3)], 17, 232, [.int .i64 0, .int .i64 0, .int .i64 0, .int .i64 0, .int .i64 0, .int .i64 0, .lst 1 [], .lst 1 [], .lst 19 [], .int .i64 0, .int .i64 0, .int .i64 0, .int .i64 0, .lst 1 [], .lst 1 [], .lst 8 [], .int .i64 0]⟩
def ty67 : TInfo := ⟨.ptr 33, 1, 8, [.nilp]⟩
def ty76 : TInfo := ⟨.ptr 49, 1, 8, [.nilp]⟩
def ty87 : TInfo := ⟨.struct [(0, 3), (1, 3), (2, 3)], 3, 24, [.int .i64 0, .int .i64 0, .int .i64 0]⟩
def ty89 : TInfo := ⟨.struct [(0, 3), (1, 3)], 2, 16, [.int .i64 0, .int .i64 0]⟩
def ty90 : TInfo := ⟨.slice 167, 1, 24, [.lst 4 []]⟩
def ty92 : TInfo := ⟨.struct [(0, 3), (1, 87), (4, 89), (6, 3), (7, 3), (8, 3), (9, 3), (10, 3), (11, 3), (12, 3), (13, 3), (14, 24), (15, 24), (16, 90), (17, 90), (18, 24)], 19, 232, [.int .i64 0, .int .i64 0, .int .i64 0, .int .i64 0, .int .i64 0, .int .i64 0, .int .i64 0, .int .i64 0, .int .i64 0, .int .i64 0, .int .i64 0, .int .i64 0, .int .i64 0, .int .i64 0, .lst 1 [], .lst 1 [], .lst 4 [], .lst 4 [], .lst 1 []]⟩
def ty96 : TInfo := ⟨.struct [(0, 3), (1, 3), (2, 3)], 3, 24, [.int .i64 0, .int .i64 0, .int .i64 0]⟩
def ty97 : TInfo := ⟨.struct [(0, 3), (1, 3)], 2, 16, [.int .i64 0, .int .i64 0]⟩
def ty98 : TInfo := ⟨.slice 138, 1, 24, [.lst 4 []]⟩
def ty100 : TInfo := ⟨.struct [(0, 3), (1, 96), (4, 97), (6, 3), (7, 3), (8, 3), (9, 3), (10, 3), (11, 3), (12, 3), (13, 3), (14, 24), (15, 24), (16, 98), (17, 98), (18, 24)], 19, 232, [.int .i64 0, .int .i64 0, .int .i64 0, .int .i64 0, .int .i64 0, .int .i64 0, .int .i64 0, .int .i64 0, .int .i64 0, .int .i64 0, .int .i64 0, .int .i64 0, .int .i64 0, .int .i64 0, .lst 1 [], .lst 1 [], .lst 4 [], .lst 4 [], .lst 1 []]⟩
def ty103 : TInfo := ⟨.func, 1, 8, [.nilf]⟩
def ty114 : TInfo := ⟨.slice 87, 1, 24, [.lst 3 []]⟩
def ty115 : TInfo := ⟨.slice 96, 1, 24, [.lst 3 []]⟩
def ty116 : TInfo := ⟨.func, 1, 8, [.nilf]⟩
def ty121 : TInfo := ⟨.struct [(0, 3), (1, 96), (4, 97), (6, 3), (7, 3)], 8, 64, [.int .i64 0, .int .i64 0, .int .i64 0, .int .i64 0, .int .i64 0, .int .i64 0, .int .i64 0, .int .i64 0]⟩
def ty125 : TInfo := ⟨.struct [(0, 3), (1, 87), (4, 89), (6, 3), (7, 3)], 8, 64, [.int .i64 0, .int .i64 0, .int .i64 0, .int .i64 0, .int .i64 0, .int .i64 0, .int .i64 0, .int .i64 0]⟩
def ty129 : TInfo := ⟨.func, 1, 8, [.nilf]⟩
def ty138 : TInfo := ⟨.struct [(0, 3), (1, 3), (2, 3), (3, 3)], 4, 32, [.int .i64 0, .int .i64 0, .int .i64 0, .int .i64 0]⟩
def ty139 : TInfo := ⟨.func, 1, 8, [.nilf]⟩
def ty149 : TInfo := ⟨.func, 1, 8, [.nilf]⟩
def ty158 : TInfo := ⟨.ptr 100, 1, 8, [.nilp]⟩
def ty167 : TInfo := ⟨.struct [(0, 3), (1, 3), (2, 3), (3, 3)], 4, 32, [.int .i64 0, .int .i64 0, .int .i64 0, .int .i64 0]⟩
def ty171 : TInfo := ⟨.slice 4, 1, 24, [.lst 1 []]⟩
def ty172 : TInfo := ⟨.func, 1, 8, [.nilf]⟩
def ty180 : TInfo := ⟨.func, 1, 8, [.nilf]⟩
def ty182 : TInfo := ⟨.struct [(0, 67), (1, 158), (2, 3)], 3, 24, [.nilp, .nilp, .int .i64 0]⟩
def ty187 : TInfo := ⟨.slice 9, 1, 24, [.lst 1 []]⟩
def tys : List (TypeId × TInfo) := [
  (3, ty3),
  (4, ty4),
  (9, ty9),
  (23, ty23),
  (24, ty24),
  (25, ty25),
  (27, ty27),
  (30, ty30),
  (31, ty31),
  (33, ty33),
  (41, ty41),
  (42, ty42),
  (44, ty44),
  (46, ty46),
  (47, ty47),
  (49, ty49),
  (67, ty67),
  (76, ty76),
  (87, ty87),
  (89, ty89),
  (90, ty90),
  (92, ty92),
  (96, ty96),
  (97, ty97),
  (98, ty98),
  (100, ty100),
  (103, ty103),
  (114, ty114),
  (115, ty115),
  (116, ty116),
  (121, ty121),
  (125, ty125),
  (129, ty129),
  (138, ty138),
  (139, ty139),
  (149, ty149),
  (158, ty158),
  (167, ty167),
  (171, ty171),
  (172, ty172),
  (180, ty180),
  (182, ty182),
  (187, ty187)]
noncomputable def fns : List (FuncId × Func) := [(3, Tryz.f3), (4, Tryz.f4), (5, Tryz.f5), (6, Tryz.f6), (7, Tryz.f7), (8, Tryz.f8), (9, Tryz.f9), (10, Tryz.f10), (11, Tryz.f11), (12, Tryz.f12), (13, Tryz.f13), (14, Tryz.f14), (15, Tryz.f15), (16, Tryz.f16), (17, Tryz.f17), (18, Tryz.f18), (19, Tryz.f19), (20, Tryz.f20), (21, Tryz.f21), (22, Tryz.f22), (23, Tryz.f23), (24, Tryz.f24), (25, Tryz.f25), (26, Tryz.f26), (27, Tryz.f27), (28, Tryz.f28), (29, Tryz.f29), (30, Tryz.f30), (31, Tryz.f31), (32, Tryz.f32), (33, Tryz.f33), (34, Tryz.f34), (35, Tryz.f35), (36, Tryz.f36), (37, Tryz.f37), (38, Tryz.f38), (39, Tryz.f39), (40, Tryz.f40), (41, Tryz.f41), (42, Tryz.f42), (43, Tryz.f43), (44, Tryz.f44), (45, Tryz.f45), (46, Tryz.f46), (47, Tryz.f47), (48, Tryz.f48), (49, Tryz.f49), (50, Tryz.f50), (51, Tryz.f51), (52, Tryz.f52), (53, Tryz.f53), (54, Tryz.f54), (55, Tryz.f55), (56, Tryz.f56), (57, Tryz.f57), (58, Tryz.f58), (59, Tryz.f59), (60, Tryz.f60), (61, Tryz.f61), (62, Tryz.f62), (63, Tryz.f63), (64, Tryz.f64), (65, Tryz.f65), (66, Tryz.f66), (67, Tryz.f67), (68, Tryz.f68), (69, Tryz.f69), (70, Tryz.f70), (71, Tryz.f71), (72, Tryz.f72), (73, Tryz.f73), (74, Tryz.f74), (75, Tryz.f75), (76, Tryz.f76), (77, Tryz.f77), (78, Tryz.f78), (79, Tryz.f79), (80, Tryz.f80), (81, Tryz.f81), (82, Tryz.f82), (83, Tryz.f83), (84, Tryz.f84), (85, Tryz.f85), (86, Tryz.f86), (87, Tryz.f87), (88, Tryz.f88), (89, Tryz.f89), (90, Tryz.f90), (91, Tryz.f91), (92, Tryz.f92), (93, Tryz.f93), (94, Tryz.f94), (95, Tryz.f95), (96, Tryz.f96), (97, Tryz.f97), (98, Tryz.f98), (99, Tryz.f99), (100, Tryz.f100), (101, Tryz.f101), (102, Tryz.f102), (103, Tryz.f103), (104, Tryz.f104), (105, Tryz.f105), (106, Tryz.f106), (107, Tryz.f107), (108, Tryz.f108), (109, Tryz.f109), (110, Tryz.f110), (111, Tryz.f111), (112, Tryz.f112), (113, Tryz.f113), (114, Tryz.f114), (115, Tryz.f115), (116, Tryz.f116), (117, Tryz.f117), (118, Tryz.f118), (119, Tryz.f119), (120, Tryz.f120), (121, Tryz.f121), (122, Tryz.f122), (123, Tryz.f123), (124, Tryz.f124), (125, Tryz.f125), (126, Tryz.f126), (127, Tryz.f127), (128, Tryz.f128), (129, Tryz.f129), (130, Tryz.f130), (131, Tryz.f131), (132, Tryz.f132), (133, Tryz.f133), (134, Tryz.f134), (135, Tryz.f135), (136, Tryz.f136), (137, Tryz.f137), (138, Tryz.f138), (139, Tryz.f139), (140, Tryz.f140), (141, Tryz.f141), (142, Tryz.f142), (143, Tryz.f143), (144, Tryz.f144), (145, Tryz.f145), (146, Tryz.f146), (147, Tryz.f147), (148, Tryz.f148), (149, Tryz.f149), (150, Tryz.f150), (151, Tryz.f151), (152, Tryz.f152), (153, Tryz.f153), (154, Tryz.f154), (155, Tryz.f155), (156, Tryz.f156), (157, Tryz.f157), (158, Tryz.f158), (159, Tryz.f159), (160, Tryz.f160), (161, Tryz.f161), (162, Tryz.f162), (163, Tryz.f163), (164, Tryz.f164), (165, Tryz.f165), (166, Tryz.f166), (167, Tryz.f167), (168, Tryz.f168), (169, Tryz.f169), (170, Tryz.f170), (171, Tryz.f171), (172, Tryz.f172), (173, Tryz.f173), (174, Tryz.f174), (175, Tryz.f175), (176, Tryz.f176), (177, Tryz.f177), (178, Tryz.f178), (179, Tryz.f179), (180, Tryz.f180), (181, Tryz.f181), (182, Tryz.f182), (183, Tryz.f183), (184, Tryz.f184), (185, Tryz.f185), (186, Tryz.f186), (187, Tryz.f187), (188, Tryz.f188), (189, Tryz.f189), (190, Tryz.f190), (191, Tryz.f191), (192, Tryz.f192), (193, Tryz.f193), (194, Tryz.f194), (195, Tryz.f195), (196, Tryz.f196), (197, Tryz.f197), (198, Tryz.f198), (199, Tryz.f199), (200, Tryz.f200), (201, Tryz.f201), (202, Tryz.f202), (203, Tryz.f203), (204, Tryz.f204), (205, Tryz.f205), (206, Tryz.f206), (207, Tryz.f207), (208, Tryz.f208), (209, Tryz.f209), (210, Tryz.f210), (211, Tryz.f211), (212, Tryz.f212), (213, Tryz.f213), (214, Tryz.f214), (215, Tryz.f215), (216, Tryz.f216), (217, Tryz.f217), (218, Tryz.f218), (219, Tryz.f219), (220, Tryz.f220), (221, Tryz.f221), (222, Tryz.f222), (223, Tryz.f223), (224, Tryz.f224), (225, Tryz.f225), (226, Tryz.f226), (227, Tryz.f227), (228, Tryz.f228), (229, Tryz.f229), (230, Tryz.f230), (231, Tryz.f231), (232, Tryz.f232), (233, Tryz.f233), (234, Tryz.f234), (235, Tryz.f235), (236, Tryz.f236), (237, Tryz.f237), (238, Tryz.f238), (239, Tryz.f239), (240, Tryz.f240), (241, Tryz.f241), (242, Tryz.f242), (243, Tryz.f243), (244, Tryz.f244), (245, Tryz.f245), (246, Tryz.f246), (247, Tryz.f247), (248, Tryz.f248), (249, Tryz.f249), (250, Tryz.f250), (251, Tryz.f251), (252, Tryz.f252), (253, Tryz.f253), (254, Tryz.f254), (255, Tryz.f255), (256, Tryz.f256), (257, Tryz.f257), (258, Tryz.f258), (259, Tryz.f259), (260, Tryz.f260), (261, Tryz.f261), (262, Tryz.f262), (263, Tryz.f263), (264, Tryz.f264), (265, Tryz.f265), (266, Tryz.f266), (267, Tryz.f267), (268, Tryz.f268), (269, Tryz.f269), (270, Tryz.f270), (271, Tryz.f271), (272, Tryz.f272), (273, Tryz.f273)]
def inls : List FuncId := [13, 20, 40, 41, 59, 60, 86, 91, 102, 106, 139, 141, 143, 145, 146, 147, 149, 150, 151, 153, 176, 193, 198, 199, 200, 201, 203, 206, 207, 209, 212, 213, 214, 215, 216, 217, 218, 219, 221, 223, 224, 226, 246, 248, 249, 251, 252, 253, 254, 257]
def noisy : List (Nat × Nat) := [(3, 10), (4, 10), (5, 10), (46, 1), (46, 5), (48, 10), (48, 13), (55, 1), (56, 6), (84, 2), (84, 6), (102, 4), (103, 6), (132, 2), (141, 11), (141, 22), (143, 13), (145, 14), (146, 13), (146, 25), (146, 28), (147, 6), (147, 10), (147, 12), (149, 9), (167, 1), (167, 2), (201, 7), (212, 4), (212, 10), (213, 4), (213, 10), (213, 12), (213, 15), (213, 21), (214, 4), (214, 7), (214, 10), (214, 13), (216, 4), (216, 14), (216, 17), (217, 10), (217, 12), (217, 15), (217, 18), (217, 21), (217, 24), (218, 4), (218, 7), (218, 10), (218, 12), (219, 18), (219, 21), (226, 2), (251, 3)]
def lives : List (FuncId × List (Nat × List Nat)) := [
  (7, [(2, [1, 3])]),
  (9, [(4, [1, 14, 15])]),
  (23, [(5, [0, 1, 5])]),
  (24, [(4, [1, 3]), (9, [1, 4]), (14, [1, 5]), (20, [1, 7])]),
  (25, [(3, [1, 2, 5, 6])]),
  (28, [(3, [0, 3, 4])]),
  (29, [(3, [0, 3, 4])]),
  (31, [(5, [5, 6])]),
  (33, [(4, [0, 1, 5])]),
  (34, [(4, [0, 1, 5])]),
  (35, [(6, [1, 2, 3, 4])]),
  (37, [(2, [0, 1, 5])]),
  (38, [(2, [1, 2, 3, 6, 8])]),
  (40, [(2, [0, 1, 5])]),
  (41, [(2, [0, 1, 5])]),
  (42, [(2, [0, 1, 5])]),
  (43, [(2, [0, 1, 5])]),
  (44, [(5, [0, 1, 5])]),
  (46, [(3, [1, 2, 3, 4])]),
  (47, [(4, [1, 3]), (9, [1, 4])]),
  (50, [(3, [0, 3, 4])]),
  (51, [(3, [0, 3, 4])]),
  (52, [(4, [1, 40, 41, 42])]),
  (57, [(4, [0, 1, 5])]),
  (58, [(4, [0, 1, 5])]),
  (59, [(2, [0, 1, 5])]),
  (60, [(2, [0, 1, 5])]),
  (61, [(2, [0, 1, 5])]),
  (62, [(2, [0, 1, 5])]),
  (67, [(2, [2, 3, 5]), (7, [2, 3, 6])]),
  (72, [(4, [2, 5, 6, 7])]),
  (73, [(3, [1, 2, 5, 6])]),
  (75, [(7, [1, 3, 80, 81]), (13, [1, 3, 96, 97])]),
  (76, [(5, [1, 5, 11, 12, 13])]),
  (78, [(3, [2, 5, 11, 12, 13])]),
  (84, [(4, [2, 3, 17, 18, 19])]),
  (86, [(2, [0, 1, 5])]),
  (87, [(2, [0, 1, 5])]),
  (89, [(2, [0, 3])]),
  (91, [(1, [0, 1, 4])]),
  (93, [(3, [0, 3, 4])]),
  (99, [(3, [3, 7, 8, 9])]),
  (102, [(1, [0, 1, 4])]),
  (104, [(4, [0, 1, 5])]),
  (106, [(2, [0, 1, 5])]),
  (107, [(2, [0, 1, 5])]),
  (113, [(2, [1, 2, 5])]),
  (116, [(4, [2, 5, 6, 7])]),
  (121, [(3, [0, 3, 4])]),
  (132, [(5, [0, 3, 4, 5, 6, 7, 38, 39]), (8, [0, 3, 4, 5, 6, 7, 38, 39, 44, 45, 46]), (14, [0, 3, 4, 5, 6, 7, 59, 60, 61]), (17, [0, 3, 4, 5, 6, 7, 12, 59, 60, 61, 66, 67, 68]), (22, [0, 3, 4, 5, 6, 7, 12, 59, 60, 61, 77, 78, 79]), (29, [0, 3, 4, 5, 6, 7, 59, 60, 61, 101, 102, 103]), (37, [0, 4, 5, 6, 7, 120, 121])]),
  (137, [(4, [0, 1, 5])]),
  (150, [(9, [0, 1, 4, 7, 8])]),
  (172, [(2, [0, 5, 6, 7])]),
  (173, [(2, [0, 1, 7, 8])]),
  (179, [(3, [0, 3, 4])]),
  (182, [(4, [1, 2, 6, 7, 8]), (8, [1, 2, 6, 7, 8, 9, 10]), (14, [1, 2, 6, 7, 8, 9, 11]), (25, [1, 2, 6, 7, 12]), (29, [1, 2, 6, 7, 12, 13, 14])]),
  (187, [(2, [0, 1, 7, 8])]),
  (194, [(6, [0, 5, 7])]),
  (205, [(6, [3, 5])]),
  (210, [(4, [0, 1, 6, 7, 8])]),
  (221, [(10, [1, 2, 76, 77, 78])]),
  (228, [(2, [0, 1, 7, 8])]),
  (233, [(2, [1, 2, 5]), (6, [1, 2, 5, 6, 7])]),
  (240, [(2, [0, 1, 7, 8])]),
  (243, [(4, [0, 1, 2, 3, 10, 11, 12])]),
  (245, [(2, [0, 1, 5])]),
  (256, [(3, [0, 1, 3, 10, 11, 17, 18, 19])]),
  (260, [(3, [1, 6, 7, 12, 13, 14])]),
  (261, [(2, [0, 1, 7, 8])]),
  (263, [(2, [1, 2, 5])]),
  (264, [(2, [1, 2, 5])]),
  (273, [(2, [0, 1, 7, 8])])]
def iom : List (Nat × Nat) := [(37, 2), (48, 2), (82, 2)]
def ios : List (Nat × Nat) := [(37, 33), (48, 49), (82, 33)]
noncomputable def cfg : Cfg := ⟨tys, fns, fun f => if memN inls f then 1 else atN iom f 0, fun _ => true, fun f r => atN (atN lives f []) r [], 18446744073709551616, [], fun _ => none, fun f i => !memP noisy f i, fun f => atN ios f 0⟩
theorem tyok3 : TyOK Tryz.prog 3 ty3 := TyOK.of (cells := [.int .i64 0]) Tryz.underlying3 rfl (by kernel_rfl) rfl rfl rfl (by kernel_rfl) (by decide)
theorem tyok4 : TyOK Tryz.prog 4 ty4 := TyOK.of (cells := [.bool false]) Tryz.underlying4 rfl (by kernel_rfl) rfl rfl rfl (by kernel_rfl) (by decide)
theorem tyok9 : TyOK Tryz.prog 9 ty9 := TyOK.of (cells := [.string ⟨#[]⟩]) Tryz.underlying9 rfl (by kernel_rfl) rfl rfl rfl (by kernel_rfl) (by decide)
theorem tyok23 : TyOK Tryz.prog 23 ty23 := TyOK.of (cells := [.int .i64 0, .int .i64 0, .int .i64 0, .int .i64 0, .int .i64 0, .int .i64 0]) Tryz.underlying23 ⟨_, rfl, rfl⟩ (by kernel_rfl) rfl rfl rfl (by kernel_rfl) (by decide)
theorem tyok24 : TyOK Tryz.prog 24 ty24 := TyOK.of (cells := [.slice none 0 0]) Tryz.underlying24 rfl (by kernel_rfl) rfl rfl rfl (by kernel_rfl) (by decide)
theorem tyok25 : TyOK Tryz.prog 25 ty25 := TyOK.of (cells := [.slice none 0 0]) Tryz.underlying25 rfl (by kernel_rfl) rfl rfl rfl (by kernel_rfl) (by decide)
theorem tyok27 : TyOK Tryz.prog 27 ty27 := TyOK.of (cells := [.int .i64 0, .int .i64 0, .int .i64 0, .int .i64 0, .int .i64 0, .int .i64 0, .slice none 0 0, .slice none 0 0, .slice none 0 0, .int .i64 0, .int .i64 0, .int .i64 0, .int .i64 0]) Tryz.underlying27 ⟨_, rfl, rfl⟩ (by kernel_rfl) rfl rfl rfl (by kernel_rfl) (by decide)
theorem tyok30 : TyOK Tryz.prog 30 ty30 := TyOK.of (cells := [.int .i64 0, .int .i64 0, .int .i64 0, .int .i64 0, .int .i64 0, .int .i64 0]) Tryz.underlying30 ⟨_, rfl, rfl⟩ (by kernel_rfl) rfl rfl rfl (by kernel_rfl) (by decide)
theorem tyok31 : TyOK Tryz.prog 31 ty31 := TyOK.of (cells := [.slice none 0 0]) Tryz.underlying31 rfl (by kernel_rfl) rfl rfl rfl (by kernel_rfl) (by decide)
theorem tyok33 : TyOK Tryz.prog 33 ty33 := TyOK.of (cells := [.int .i64 0, .int .i64 0, .int .i64 0, .int .i64 0, .int .i64 0, .int .i64 0, .slice none 0 0, .slice none 0 0, .slice none 0 0, .int .i64 0, .int .i64 0, .int .i64 0, .int .i64 0]) Tryz.underlying33 ⟨_, rfl, rfl⟩ (by kernel_rfl) rfl rfl rfl (by kernel_rfl) (by decide)
theorem tyok41 : TyOK Tryz.prog 41 ty41 := TyOK.of (cells := [.slice none 0 0]) Tryz.underlying41 rfl (by kernel_rfl) rfl rfl rfl (by kernel_rfl) (by decide)
theorem tyok42 : TyOK Tryz.prog 42 ty42 := TyOK.of (cells := [.slice none 0 0]) Tryz.underlying42 rfl (by kernel_rfl) rfl rfl rfl (by kernel_rfl) (by decide)
theorem tyok44 : TyOK Tryz.prog 44 ty44 := TyOK.of (cells := [.int .i64 0, .int .i64 0, .int .i64 0, .int .i64 0, .int .i64 0, .int .i64 0, .slice none 0 0, .slice none 0 0, .slice none 0 0, .int .i64 0, .int .i64 0, .int .i64 0, .int .i64 0, .slice none 0 0, .slice none 0 0, .slice none 0 0, .int .i64 0]) Tryz.underlying44 ⟨_, rfl, rfl⟩ (by kernel_rfl) rfl rfl rfl (by kernel_rfl) (by decide)
theorem tyok46 : TyOK Tryz.prog 46 ty46 := TyOK.of (cells := [.slice none 0 0]) Tryz.underlying46 rfl (by kernel_rfl) rfl rfl rfl (by kernel_rfl) (by decide)
theorem tyok47 : TyOK Tryz.prog 47 ty47 := TyOK.of (cells := [.slice none 0 0]) Tryz.underlying47 rfl (by kernel_rfl) rfl rfl rfl (by kernel_rfl) (by decide)
theorem tyok49 : TyOK Tryz.prog 49 ty49 := TyOK.of (cells := [.int .i64 0, .int .i64 0, .int .i64 0, .int .i64 0, .int .i64 0, .int .i64 0, .slice none 0 0, .slice none 0 0, .slice none 0 0, .int .i64 0, .int .i64 0, .int .i64 0, .int .i64 0, .slice none 0 0, .slice none 0 0, .slice none 0 0, .int .i64 0]) Tryz.underlying49 ⟨_, rfl, rfl⟩ (by kernel_rfl) rfl rfl rfl (by kernel_rfl) (by decide)
theorem tyok67 : TyOK Tryz.prog 67 ty67 := TyOK.of (cells := [.pointer none]) Tryz.underlying67 rfl (by kernel_rfl) rfl rfl rfl (by kernel_rfl) (by decide)
theorem tyok76 : TyOK Tryz.prog 76 ty76 := TyOK.of (cells := [.pointer none]) Tryz.underlying76 rfl (by kernel_rfl) rfl rfl rfl (by kernel_rfl) (by decide)
theorem tyok87 : TyOK Tryz.prog 87 ty87 := TyOK.of (cells := [.int .i64 0, .int .i64 0, .int .i64 0]) Tryz.underlying87 ⟨_, rfl, rfl⟩ (by kernel_rfl) rfl rfl rfl (by kernel_rfl) (by decide)
theorem tyok89 : TyOK Tryz.prog 89 ty89 := TyOK.of (cells := [.int .i64 0, .int .i64 0]) Tryz.underlying89 ⟨_, rfl, rfl⟩ (by kernel_rfl) rfl rfl rfl (by kernel_rfl) (by decide)
theorem tyok90 : TyOK Tryz.prog 90 ty90 := TyOK.of (cells := [.slice none 0 0]) Tryz.underlying90 rfl (by kernel_rfl) rfl rfl rfl (by kernel_rfl) (by decide)
theorem tyok92 : TyOK Tryz.prog 92 ty92 := TyOK.of (cells := [.int .i64 0, .int .i64 0, .int .i64 0, .int .i64 0, .int .i64 0, .int .i64 0, .int .i64 0, .int .i64 0, .int .i64 0, .int .i64 0, .int .i64 0, .int .i64 0, .int .i64 0, .int .i64 0, .slice none 0 0, .slice none 0 0, .slice none 0 0, .slice none 0 0, .slice none 0 0]) Tryz.underlying92 ⟨_, rfl, rfl⟩ (by kernel_rfl) rfl rfl rfl (by kernel_rfl) (by decide)
theorem tyok96 : TyOK Tryz.prog 96 ty96 := TyOK.of (cells := [.int .i64 0, .int .i64 0, .int .i64 0]) Tryz.underlying96 ⟨_, rfl, rfl⟩ (by kernel_rfl) rfl rfl rfl (by kernel_rfl) (by decide)
theorem tyok97 : TyOK Tryz.prog 97 ty97 := TyOK.of (cells := [.int .i64 0, .int .i64 0]) Tryz.underlying97 ⟨_, rfl, rfl⟩ (by kernel_rfl) rfl rfl rfl (by kernel_rfl) (by decide)
theorem tyok98 : TyOK Tryz.prog 98 ty98 := TyOK.of (cells := [.slice none 0 0]) Tryz.underlying98 rfl (by kernel_rfl) rfl rfl rfl (by kernel_rfl) (by decide)
theorem tyok100 : TyOK Tryz.prog 100 ty100 := TyOK.of (cells := [.int .i64 0, .int .i64 0, .int .i64 0, .int .i64 0, .int .i64 0, .int .i64 0, .int .i64 0, .int .i64 0, .int .i64 0, .int .i64 0, .int .i64 0, .int .i64 0, .int .i64 0, .int .i64 0, .slice none 0 0, .slice none 0 0, .slice none 0 0, .slice none 0 0, .slice none 0 0]) Tryz.underlying100 ⟨_, rfl, rfl⟩ (by kernel_rfl) rfl rfl rfl (by kernel_rfl) (by decide)
theorem tyok103 : TyOK Tryz.prog 103 ty103 := TyOK.of (cells := [.nilFunc]) Tryz.underlying103 ⟨_, _, _, rfl⟩ (by kernel_rfl) rfl rfl rfl (by kernel_rfl) (by decide)
theorem tyok114 : TyOK Tryz.prog 114 ty114 := TyOK.of (cells := [.slice none 0 0]) Tryz.underlying114 rfl (by kernel_rfl) rfl rfl rfl (by kernel_rfl) (by decide)
theorem tyok115 : TyOK Tryz.prog 115 ty115 := TyOK.of (cells := [.slice none 0 0]) Tryz.underlying115 rfl (by kernel_rfl) rfl rfl rfl (by kernel_rfl) (by decide)
theorem tyok116 : TyOK Tryz.prog 116 ty116 := TyOK.of (cells := [.nilFunc]) Tryz.underlying116 ⟨_, _, _, rfl⟩ (by kernel_rfl) rfl rfl rfl (by kernel_rfl) (by decide)
theorem tyok121 : TyOK Tryz.prog 121 ty121 := TyOK.of (cells := [.int .i64 0, .int .i64 0, .int .i64 0, .int .i64 0, .int .i64 0, .int .i64 0, .int .i64 0, .int .i64 0]) Tryz.underlying121 ⟨_, rfl, rfl⟩ (by kernel_rfl) rfl rfl rfl (by kernel_rfl) (by decide)
theorem tyok125 : TyOK Tryz.prog 125 ty125 := TyOK.of (cells := [.int .i64 0, .int .i64 0, .int .i64 0, .int .i64 0, .int .i64 0, .int .i64 0, .int .i64 0, .int .i64 0]) Tryz.underlying125 ⟨_, rfl, rfl⟩ (by kernel_rfl) rfl rfl rfl (by kernel_rfl) (by decide)
theorem tyok129 : TyOK Tryz.prog 129 ty129 := TyOK.of (cells := [.nilFunc]) Tryz.underlying129 ⟨_, _, _, rfl⟩ (by kernel_rfl) rfl rfl rfl (by kernel_rfl) (by decide)
theorem tyok138 : TyOK Tryz.prog 138 ty138 := TyOK.of (cells := [.int .i64 0, .int .i64 0, .int .i64 0, .int .i64 0]) Tryz.underlying138 ⟨_, rfl, rfl⟩ (by kernel_rfl) rfl rfl rfl (by kernel_rfl) (by decide)
theorem tyok139 : TyOK Tryz.prog 139 ty139 := TyOK.of (cells := [.nilFunc]) Tryz.underlying139 ⟨_, _, _, rfl⟩ (by kernel_rfl) rfl rfl rfl (by kernel_rfl) (by decide)
theorem tyok149 : TyOK Tryz.prog 149 ty149 := TyOK.of (cells := [.nilFunc]) Tryz.underlying149 ⟨_, _, _, rfl⟩ (by kernel_rfl) rfl rfl rfl (by kernel_rfl) (by decide)
theorem tyok158 : TyOK Tryz.prog 158 ty158 := TyOK.of (cells := [.pointer none]) Tryz.underlying158 rfl (by kernel_rfl) rfl rfl rfl (by kernel_rfl) (by decide)
theorem tyok167 : TyOK Tryz.prog 167 ty167 := TyOK.of (cells := [.int .i64 0, .int .i64 0, .int .i64 0, .int .i64 0]) Tryz.underlying167 ⟨_, rfl, rfl⟩ (by kernel_rfl) rfl rfl rfl (by kernel_rfl) (by decide)
theorem tyok171 : TyOK Tryz.prog 171 ty171 := TyOK.of (cells := [.slice none 0 0]) Tryz.underlying171 rfl (by kernel_rfl) rfl rfl rfl (by kernel_rfl) (by decide)
theorem tyok172 : TyOK Tryz.prog 172 ty172 := TyOK.of (cells := [.nilFunc]) Tryz.underlying172 ⟨_, _, _, rfl⟩ (by kernel_rfl) rfl rfl rfl (by kernel_rfl) (by decide)
theorem tyok180 : TyOK Tryz.prog 180 ty180 := TyOK.of (cells := [.nilFunc]) Tryz.underlying180 ⟨_, _, _, rfl⟩ (by kernel_rfl) rfl rfl rfl (by kernel_rfl) (by decide)
theorem tyok182 : TyOK Tryz.prog 182 ty182 := TyOK.of (cells := [.pointer none, .pointer none, .int .i64 0]) Tryz.underlying182 ⟨_, rfl, rfl⟩ (by kernel_rfl) rfl rfl rfl (by kernel_rfl) (by decide)
theorem tyok187 : TyOK Tryz.prog 187 ty187 := TyOK.of (cells := [.slice none 0 0]) Tryz.underlying187 rfl (by kernel_rfl) rfl rfl rfl (by kernel_rfl) (by decide)
theorem tys_ok : TysOK Tryz.prog tys := by
  intro y hy
  simp only [tys, List.mem_cons, List.not_mem_nil, or_false] at hy
  rcases hy with rfl | rfl | rfl | rfl | rfl | rfl | rfl | rfl | rfl | rfl | rfl | rfl | rfl | rfl | rfl | rfl | rfl | rfl | rfl | rfl | rfl | rfl | rfl | rfl | rfl | rfl | rfl | rfl | rfl | rfl | rfl | rfl | rfl | rfl | rfl | rfl | rfl | rfl | rfl | rfl | rfl | rfl | rfl
  · exact tyok3
  · exact tyok4
  · exact tyok9
  · exact tyok23
  · exact tyok24
  · exact tyok25
  · exact tyok27
  · exact tyok30
  · exact tyok31
  · exact tyok33
  · exact tyok41
  · exact tyok42
  · exact tyok44
  · exact tyok46
  · exact tyok47
  · exact tyok49
  · exact tyok67
  · exact tyok76
  · exact tyok87
  · exact tyok89
  · exact tyok90
  · exact tyok92
  · exact tyok96
  · exact tyok97
  · exact tyok98
  · exact tyok100
  · exact tyok103
  · exact tyok114
  · exact tyok115
  · exact tyok116
  · exact tyok121
  · exact tyok125
  · exact tyok129
  · exact tyok138
  · exact tyok139
  · exact tyok149
  · exact tyok158
  · exact tyok167
  · exact tyok171
  · exact tyok172
  · exact tyok180
  · exact tyok182
  · exact tyok187
theorem fC {a : FuncId × Func} {l : List (FuncId × Func)} (h : Tryz.prog.funcs[a.1]? = some a.2) (t : ∀ y ∈ l, Tryz.prog.funcs[y.1]? = some y.2) : ∀ y ∈ a :: l, Tryz.prog.funcs[y.1]? = some y.2 := by
  intro y hy
  rcases List.mem_cons.1 hy with e | e
  · rw [e]; exact h
  · exact t y e
theorem funcs_ok : ∀ y ∈ fns, Tryz.prog.funcs[y.1]? = some y.2 := by
  unfold fns
  refine fC Tryz.func3 ?_
  refine fC Tryz.func4 ?_
  refine fC Tryz.func5 ?_
  refine fC Tryz.func6 ?_
  refine fC Tryz.func7 ?_
  refine fC Tryz.func8 ?_
  refine fC Tryz.func9 ?_
  refine fC Tryz.func10 ?_
  refine fC Tryz.func11 ?_
  refine fC Tryz.func12 ?_
  refine fC Tryz.func13 ?_
  refine fC Tryz.func14 ?_
  refine fC Tryz.func15 ?_
  refine fC Tryz.func16 ?_
  refine fC Tryz.func17 ?_
  refine fC Tryz.func18 ?_
  refine fC Tryz.func19 ?_
  refine fC Tryz.func20 ?_
  refine fC Tryz.func21 ?_
  refine fC Tryz.func22 ?_
  refine fC Tryz.func23 ?_
  refine fC Tryz.func24 ?_
  refine fC Tryz.func25 ?_
  refine fC Tryz.func26 ?_
  refine fC Tryz.func27 ?_
  refine fC Tryz.func28 ?_
  refine fC Tryz.func29 ?_
  refine fC Tryz.func30 ?_
  refine fC Tryz.func31 ?_
  refine fC Tryz.func32 ?_
  refine fC Tryz.func33 ?_
  refine fC Tryz.func34 ?_
  refine fC Tryz.func35 ?_
  refine fC Tryz.func36 ?_
  refine fC Tryz.func37 ?_
  refine fC Tryz.func38 ?_
  refine fC Tryz.func39 ?_
  refine fC Tryz.func40 ?_
  refine fC Tryz.func41 ?_
  refine fC Tryz.func42 ?_
  refine fC Tryz.func43 ?_
  refine fC Tryz.func44 ?_
  refine fC Tryz.func45 ?_
  refine fC Tryz.func46 ?_
  refine fC Tryz.func47 ?_
  refine fC Tryz.func48 ?_
  refine fC Tryz.func49 ?_
  refine fC Tryz.func50 ?_
  refine fC Tryz.func51 ?_
  refine fC Tryz.func52 ?_
  refine fC Tryz.func53 ?_
  refine fC Tryz.func54 ?_
  refine fC Tryz.func55 ?_
  refine fC Tryz.func56 ?_
  refine fC Tryz.func57 ?_
  refine fC Tryz.func58 ?_
  refine fC Tryz.func59 ?_
  refine fC Tryz.func60 ?_
  refine fC Tryz.func61 ?_
  refine fC Tryz.func62 ?_
  refine fC Tryz.func63 ?_
  refine fC Tryz.func64 ?_
  refine fC Tryz.func65 ?_
  refine fC Tryz.func66 ?_
  refine fC Tryz.func67 ?_
  refine fC Tryz.func68 ?_
  refine fC Tryz.func69 ?_
  refine fC Tryz.func70 ?_
  refine fC Tryz.func71 ?_
  refine fC Tryz.func72 ?_
  refine fC Tryz.func73 ?_
  refine fC Tryz.func74 ?_
  refine fC Tryz.func75 ?_
  refine fC Tryz.func76 ?_
  refine fC Tryz.func77 ?_
  refine fC Tryz.func78 ?_
  refine fC Tryz.func79 ?_
  refine fC Tryz.func80 ?_
  refine fC Tryz.func81 ?_
  refine fC Tryz.func82 ?_
  refine fC Tryz.func83 ?_
  refine fC Tryz.func84 ?_
  refine fC Tryz.func85 ?_
  refine fC Tryz.func86 ?_
  refine fC Tryz.func87 ?_
  refine fC Tryz.func88 ?_
  refine fC Tryz.func89 ?_
  refine fC Tryz.func90 ?_
  refine fC Tryz.func91 ?_
  refine fC Tryz.func92 ?_
  refine fC Tryz.func93 ?_
  refine fC Tryz.func94 ?_
  refine fC Tryz.func95 ?_
  refine fC Tryz.func96 ?_
  refine fC Tryz.func97 ?_
  refine fC Tryz.func98 ?_
  refine fC Tryz.func99 ?_
  refine fC Tryz.func100 ?_
  refine fC Tryz.func101 ?_
  refine fC Tryz.func102 ?_
  refine fC Tryz.func103 ?_
  refine fC Tryz.func104 ?_
  refine fC Tryz.func105 ?_
  refine fC Tryz.func106 ?_
  refine fC Tryz.func107 ?_
  refine fC Tryz.func108 ?_
  refine fC Tryz.func109 ?_
  refine fC Tryz.func110 ?_
  refine fC Tryz.func111 ?_
  refine fC Tryz.func112 ?_
  refine fC Tryz.func113 ?_
  refine fC Tryz.func114 ?_
  refine fC Tryz.func115 ?_
  refine fC Tryz.func116 ?_
  refine fC Tryz.func117 ?_
  refine fC Tryz.func118 ?_
  refine fC Tryz.func119 ?_
  refine fC Tryz.func120 ?_
  refine fC Tryz.func121 ?_
  refine fC Tryz.func122 ?_
  refine fC Tryz.func123 ?_
  refine fC Tryz.func124 ?_
  refine fC Tryz.func125 ?_
  refine fC Tryz.func126 ?_
  refine fC Tryz.func127 ?_
  refine fC Tryz.func128 ?_
  refine fC Tryz.func129 ?_
  refine fC Tryz.func130 ?_
  refine fC Tryz.func131 ?_
  refine fC Tryz.func132 ?_
  refine fC Tryz.func133 ?_
  refine fC Tryz.func134 ?_
  refine fC Tryz.func135 ?_
  refine fC Tryz.func136 ?_
  refine fC Tryz.func137 ?_
  refine fC Tryz.func138 ?_
  refine fC Tryz.func139 ?_
  refine fC Tryz.func140 ?_
  refine fC Tryz.func141 ?_
  refine fC Tryz.func142 ?_
  refine fC Tryz.func143 ?_
  refine fC Tryz.func144 ?_
  refine fC Tryz.func145 ?_
  refine fC Tryz.func146 ?_
  refine fC Tryz.func147 ?_
  refine fC Tryz.func148 ?_
  refine fC Tryz.func149 ?_
  refine fC Tryz.func150 ?_
  refine fC Tryz.func151 ?_
  refine fC Tryz.func152 ?_
  refine fC Tryz.func153 ?_
  refine fC Tryz.func154 ?_
  refine fC Tryz.func155 ?_
  refine fC Tryz.func156 ?_
  refine fC Tryz.func157 ?_
  refine fC Tryz.func158 ?_
  refine fC Tryz.func159 ?_
  refine fC Tryz.func160 ?_
  refine fC Tryz.func161 ?_
  refine fC Tryz.func162 ?_
  refine fC Tryz.func163 ?_
  refine fC Tryz.func164 ?_
  refine fC Tryz.func165 ?_
  refine fC Tryz.func166 ?_
  refine fC Tryz.func167 ?_
  refine fC Tryz.func168 ?_
  refine fC Tryz.func169 ?_
  refine fC Tryz.func170 ?_
  refine fC Tryz.func171 ?_
  refine fC Tryz.func172 ?_
  refine fC Tryz.func173 ?_
  refine fC Tryz.func174 ?_
  refine fC Tryz.func175 ?_
  refine fC Tryz.func176 ?_
  refine fC Tryz.func177 ?_
  refine fC Tryz.func178 ?_
  refine fC Tryz.func179 ?_
  refine fC Tryz.func180 ?_
  refine fC Tryz.func181 ?_
  refine fC Tryz.func182 ?_
  refine fC Tryz.func183 ?_
  refine fC Tryz.func184 ?_
  refine fC Tryz.func185 ?_
  refine fC Tryz.func186 ?_
  refine fC Tryz.func187 ?_
  refine fC Tryz.func188 ?_
  refine fC Tryz.func189 ?_
  refine fC Tryz.func190 ?_
  refine fC Tryz.func191 ?_
  refine fC Tryz.func192 ?_
  refine fC Tryz.func193 ?_
  refine fC Tryz.func194 ?_
  refine fC Tryz.func195 ?_
  refine fC Tryz.func196 ?_
  refine fC Tryz.func197 ?_
  refine fC Tryz.func198 ?_
  refine fC Tryz.func199 ?_
  refine fC Tryz.func200 ?_
  refine fC Tryz.func201 ?_
  refine fC Tryz.func202 ?_
  refine fC Tryz.func203 ?_
  refine fC Tryz.func204 ?_
  refine fC Tryz.func205 ?_
  refine fC Tryz.func206 ?_
  refine fC Tryz.func207 ?_
  refine fC Tryz.func208 ?_
  refine fC Tryz.func209 ?_
  refine fC Tryz.func210 ?_
  refine fC Tryz.func211 ?_
  refine fC Tryz.func212 ?_
  refine fC Tryz.func213 ?_
  refine fC Tryz.func214 ?_
  refine fC Tryz.func215 ?_
  refine fC Tryz.func216 ?_
  refine fC Tryz.func217 ?_
  refine fC Tryz.func218 ?_
  refine fC Tryz.func219 ?_
  refine fC Tryz.func220 ?_
  refine fC Tryz.func221 ?_
  refine fC Tryz.func222 ?_
  refine fC Tryz.func223 ?_
  refine fC Tryz.func224 ?_
  refine fC Tryz.func225 ?_
  refine fC Tryz.func226 ?_
  refine fC Tryz.func227 ?_
  refine fC Tryz.func228 ?_
  refine fC Tryz.func229 ?_
  refine fC Tryz.func230 ?_
  refine fC Tryz.func231 ?_
  refine fC Tryz.func232 ?_
  refine fC Tryz.func233 ?_
  refine fC Tryz.func234 ?_
  refine fC Tryz.func235 ?_
  refine fC Tryz.func236 ?_
  refine fC Tryz.func237 ?_
  refine fC Tryz.func238 ?_
  refine fC Tryz.func239 ?_
  refine fC Tryz.func240 ?_
  refine fC Tryz.func241 ?_
  refine fC Tryz.func242 ?_
  refine fC Tryz.func243 ?_
  refine fC Tryz.func244 ?_
  refine fC Tryz.func245 ?_
  refine fC Tryz.func246 ?_
  refine fC Tryz.func247 ?_
  refine fC Tryz.func248 ?_
  refine fC Tryz.func249 ?_
  refine fC Tryz.func250 ?_
  refine fC Tryz.func251 ?_
  refine fC Tryz.func252 ?_
  refine fC Tryz.func253 ?_
  refine fC Tryz.func254 ?_
  refine fC Tryz.func255 ?_
  refine fC Tryz.func256 ?_
  refine fC Tryz.func257 ?_
  refine fC Tryz.func258 ?_
  refine fC Tryz.func259 ?_
  refine fC Tryz.func260 ?_
  refine fC Tryz.func261 ?_
  refine fC Tryz.func262 ?_
  refine fC Tryz.func263 ?_
  refine fC Tryz.func264 ?_
  refine fC Tryz.func265 ?_
  refine fC Tryz.func266 ?_
  refine fC Tryz.func267 ?_
  refine fC Tryz.func268 ?_
  refine fC Tryz.func269 ?_
  refine fC Tryz.func270 ?_
  refine fC Tryz.func271 ?_
  refine fC Tryz.func272 ?_
  refine fC Tryz.func273 ?_
  exact fun _ h => nomatch h
theorem chk : fns.all (fnChk cfg) = true := by kernel_rfl
theorem cfg_ok : CfgOK Tryz.prog envAny cfg := ⟨tys_ok, fun _ h => (nomatch h), fns_ok funcs_ok chk, fun _ _ h => (nomatch h)⟩
end Go.Proofs.YtpmlbimlndphhaaGreat.A
