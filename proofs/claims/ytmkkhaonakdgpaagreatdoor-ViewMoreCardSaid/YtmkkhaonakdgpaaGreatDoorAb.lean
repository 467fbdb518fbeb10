/- The seat's program: its types, plans, what lives at loops' heads; the context. Printed by mkseat.py. -/
import Derived.Test.YtmkkhaonakdgpaaGreatDoorG3
import Derived.Test.YtmkkhaonakdgpaaGreatDoorProg
import Derived.KernelRfl
namespace Go.Ab
open Go Go.Proofs
def Tryz.tab : Tab := [
  (0, ⟨1, false, .other, [], none, 0, false⟩),
  (1, ⟨1, false, .other, [], (some (.nilf)), 8, false⟩),
  (2, ⟨1, false, (.int .i64), [], (some (.int .i64 0)), 8, true⟩),
  (3, ⟨1, false, (.int .i64), [], (some (.int .i64 0)), 8, true⟩),
  (4, ⟨1, false, .bool, [], (some (.bool false)), 1, true⟩),
  (5, ⟨1, false, (.int .u8), [], (some (.int .u8 0)), 1, true⟩),
  (6, ⟨1, false, (.int .u8), [], (some (.int .u8 0)), 1, true⟩),
  (7, ⟨4, true, .struct, [(0, 2), (1, 3), (2, 4), (3, 6)], (some (.agg [.int .i64 0, .int .i64 0, .bool false, .int .u8 0])), 24, true⟩),
  (8, ⟨4, true, .struct, [(0, 2), (1, 3), (2, 4), (3, 6)], (some (.agg [.int .i64 0, .int .i64 0, .bool false, .int .u8 0])), 24, true⟩),
  (9, ⟨1, false, .string, [], (some (.str [])), 16, true⟩),
  (10, ⟨1, false, .string, [], (some (.str [])), 16, true⟩),
  (11, ⟨1, false, .string, [], (some (.str [])), 16, true⟩),
  (12, ⟨1, false, (.int .u64), [], (some (.int .u64 0)), 8, true⟩),
  (13, ⟨2, true, .struct, [(0, 9), (1, 12)], (some (.agg [.str [], .int .u64 0])), 24, false⟩),
  (14, ⟨2, true, .struct, [(0, 9), (1, 12)], (some (.agg [.str [], .int .u64 0])), 24, false⟩),
  (15, ⟨1, false, (.pointer 347), [], (some (.nilp)), 8, true⟩),
  (16, ⟨1, false, (.pointer 350), [], (some (.nilp)), 8, true⟩),
  (17, ⟨1, false, (.pointer 358), [], (some (.nilp)), 8, true⟩),
  (18, ⟨1, true, .struct, [(0, 17)], (some (.agg [.nilp])), 8, false⟩),
  (19, ⟨1, true, .struct, [(0, 17)], (some (.agg [.nilp])), 8, false⟩),
  (20, ⟨1, false, .iface, [], (some (.nili)), 16, true⟩),
  (21, ⟨1, false, (.int .i32), [], (some (.int .i32 0)), 4, true⟩),
  (22, ⟨1, false, (.slice 5), [], (some (.nils)), 24, false⟩),
  (23, ⟨1, false, .other, [], (some (.nilf)), 8, false⟩),
  (24, ⟨1, false, (.pointer 80), [], (some (.nilp)), 8, true⟩),
  (25, ⟨1, false, .other, [], (some (.nilf)), 8, false⟩),
  (26, ⟨1, false, (.slice 33), [], (some (.nils)), 24, false⟩),
  (27, ⟨1, false, .other, [], (some (.nilf)), 8, false⟩),
  (28, ⟨1, false, .other, [], (some (.nilf)), 8, false⟩),
  (29, ⟨1, false, .other, [], (some (.nilf)), 8, false⟩),
  (30, ⟨1, false, (.slice 39), [], (some (.nils)), 24, false⟩),
  (31, ⟨1, false, (.slice 3), [], (some (.nils)), 24, false⟩),
  (32, ⟨5, true, .struct, [(0, 3), (1, 3), (2, 9), (3, 30), (4, 31)], (some (.agg [.int .i64 0, .int .i64 0, .str [], .nils, .nils])), 80, false⟩),
  (33, ⟨5, true, .struct, [(0, 3), (1, 3), (2, 9), (3, 30), (4, 31)], (some (.agg [.int .i64 0, .int .i64 0, .str [], .nils, .nils])), 80, false⟩),
  (34, ⟨1, false, .other, [], (some (.nilf)), 8, false⟩),
  (35, ⟨1, false, .other, [], (some (.nilf)), 8, false⟩),
  (36, ⟨3, true, .struct, [(0, 3), (1, 3), (2, 3)], (some (.agg [.int .i64 0, .int .i64 0, .int .i64 0])), 24, true⟩),
  (37, ⟨3, true, .struct, [(0, 3), (1, 3), (2, 3)], (some (.agg [.int .i64 0, .int .i64 0, .int .i64 0])), 24, true⟩),
  (38, ⟨4, true, .struct, [(0, 3), (1, 37)], (some (.agg [.int .i64 0, .int .i64 0, .int .i64 0, .int .i64 0])), 32, true⟩),
  (39, ⟨4, true, .struct, [(0, 3), (1, 37)], (some (.agg [.int .i64 0, .int .i64 0, .int .i64 0, .int .i64 0])), 32, true⟩),
  (40, ⟨1, false, .other, [], (some (.nilf)), 8, false⟩),
  (41, ⟨1, false, .other, [], (some (.nilf)), 8, false⟩),
  (42, ⟨1, false, .other, [], (some (.nilf)), 8, false⟩),
  (43, ⟨1, false, .other, [], (some (.nilf)), 8, false⟩),
  (44, ⟨1, false, .other, [], (some (.nilf)), 8, false⟩),
  (45, ⟨1, false, (.slice 26), [], (some (.nils)), 24, false⟩),
  (46, ⟨1, false, (.slice 96), [], (some (.nils)), 24, false⟩),
  (47, ⟨1, false, (.slice 58), [], (some (.nils)), 24, false⟩),
  (48, ⟨1, false, (.slice 186), [], (some (.nils)), 24, false⟩),
  (49, ⟨1, false, (.slice 54), [], (some (.nils)), 24, false⟩),
  (50, ⟨6, true, .struct, [(0, 3), (1, 3), (2, 46), (3, 47), (4, 48), (5, 49)], (some (.agg [.int .i64 0, .int .i64 0, .nils, .nils, .nils, .nils])), 112, false⟩),
  (51, ⟨6, true, .struct, [(0, 3), (1, 3), (2, 46), (3, 47), (4, 48), (5, 49)], (some (.agg [.int .i64 0, .int .i64 0, .nils, .nils, .nils, .nils])), 112, false⟩),
  (52, ⟨1, false, (.slice 144), [], (some (.nils)), 24, false⟩),
  (53, ⟨8, true, .struct, [(0, 3), (1, 37), (4, 4), (5, 52), (6, 9), (7, 9)], (some (.agg [.int .i64 0, .int .i64 0, .int .i64 0, .int .i64 0, .bool false, .nils, .str [], .str []])), 96, false⟩),
  (54, ⟨8, true, .struct, [(0, 3), (1, 37), (4, 4), (5, 52), (6, 9), (7, 9)], (some (.agg [.int .i64 0, .int .i64 0, .int .i64 0, .int .i64 0, .bool false, .nils, .str [], .str []])), 96, false⟩),
  (55, ⟨1, false, .other, [], none, 0, false⟩),
  (56, ⟨1, false, .other, [], (some (.nilf)), 8, false⟩),
  (57, ⟨7, true, .struct, [(0, 3), (1, 3), (2, 3), (3, 3), (4, 3), (5, 49), (6, 26)], (some (.agg [.int .i64 0, .int .i64 0, .int .i64 0, .int .i64 0, .int .i64 0, .nils, .nils])), 88, false⟩),
  (58, ⟨7, true, .struct, [(0, 3), (1, 3), (2, 3), (3, 3), (4, 3), (5, 49), (6, 26)], (some (.agg [.int .i64 0, .int .i64 0, .int .i64 0, .int .i64 0, .int .i64 0, .nils, .nils])), 88, false⟩),
  (59, ⟨1, false, .other, [], (some (.nilf)), 8, false⟩),
  (60, ⟨1, false, .other, [], (some (.nilf)), 8, false⟩),
  (61, ⟨1, false, .other, [], none, 0, false⟩),
  (62, ⟨1, false, .other, [], (some (.nilf)), 8, false⟩),
  (63, ⟨1, false, (.int .i64), [], (some (.int .i64 0)), 8, true⟩),
  (64, ⟨1, false, .other, [], none, 0, false⟩),
  (65, ⟨1, false, .other, [], (some (.nilf)), 8, false⟩),
  (66, ⟨1, false, .other, [], none, 0, false⟩),
  (67, ⟨1, false, .other, [], (some (.nilf)), 8, false⟩),
  (68, ⟨1, false, .other, [], (some (.nilf)), 8, false⟩),
  (69, ⟨1, false, .other, [], none, 0, false⟩),
  (70, ⟨1, false, .other, [], (some (.nilf)), 8, false⟩),
  (71, ⟨1, false, .other, [], (some (.nilf)), 8, false⟩),
  (72, ⟨1, false, .other, [], (some (.nilf)), 8, false⟩),
  (73, ⟨1, false, .other, [], (some (.nilf)), 8, false⟩),
  (74, ⟨1, false, .other, [], none, 0, false⟩),
  (75, ⟨1, false, .other, [], (some (.nilf)), 8, false⟩),
  (76, ⟨1, false, .other, [], (some (.nilf)), 8, false⟩),
  (77, ⟨1, false, .other, [], (some (.nilf)), 8, false⟩),
  (78, ⟨1, false, .other, [], (some (.nilf)), 8, false⟩),
  (79, ⟨2, true, .struct, [(0, 22), (1, 3)], (some (.agg [.nils, .int .i64 0])), 32, false⟩),
  (80, ⟨2, true, .struct, [(0, 22), (1, 3)], (some (.agg [.nils, .int .i64 0])), 32, false⟩),
  (81, ⟨1, false, .other, [], (some (.nilf)), 8, false⟩),
  (82, ⟨1, false, .other, [], (some (.nilf)), 8, false⟩),
  (83, ⟨1, false, .other, [], (some (.nilf)), 8, false⟩),
  (84, ⟨1, false, .other, [], (some (.nilf)), 8, false⟩),
  (85, ⟨1, false, .other, [], (some (.nilf)), 8, false⟩),
  (86, ⟨1, false, .other, [], (some (.nilf)), 8, false⟩),
  (87, ⟨1, false, (.slice 89), [], (some (.nils)), 24, false⟩),
  (88, ⟨6, true, .struct, [(0, 3), (1, 3), (2, 3), (3, 3), (4, 9), (5, 87)], (some (.agg [.int .i64 0, .int .i64 0, .int .i64 0, .int .i64 0, .str [], .nils])), 72, false⟩),
  (89, ⟨6, true, .struct, [(0, 3), (1, 3), (2, 3), (3, 3), (4, 9), (5, 87)], (some (.agg [.int .i64 0, .int .i64 0, .int .i64 0, .int .i64 0, .str [], .nils])), 72, false⟩),
  (90, ⟨1, false, .other, [], none, 0, false⟩),
  (91, ⟨1, false, .other, [], (some (.nilf)), 8, false⟩),
  (92, ⟨1, false, .other, [], (some (.nilf)), 8, false⟩),
  (93, ⟨1, false, .other, [], (some (.nilf)), 8, false⟩),
  (94, ⟨1, false, .other, [], none, 0, false⟩),
  (95, ⟨1, false, .other, [], (some (.nilf)), 8, false⟩),
  (96, ⟨2, true, (.array 2 3), [(0, 3), (1, 3)], (some (.agg [.int .i64 0, .int .i64 0])), 16, true⟩),
  (97, ⟨1, false, .other, [], none, 0, false⟩),
  (98, ⟨1, false, .other, [], (some (.nilf)), 8, false⟩),
  (99, ⟨8, true, .struct, [(0, 3), (1, 3), (2, 3), (3, 3), (4, 3), (5, 52), (6, 9), (7, 9)], (some (.agg [.int .i64 0, .int .i64 0, .int .i64 0, .int .i64 0, .int .i64 0, .nils, .str [], .str []])), 96, false⟩),
  (100, ⟨8, true, .struct, [(0, 3), (1, 3), (2, 3), (3, 3), (4, 3), (5, 52), (6, 9), (7, 9)], (some (.agg [.int .i64 0, .int .i64 0, .int .i64 0, .int .i64 0, .int .i64 0, .nils, .str [], .str []])), 96, false⟩),
  (101, ⟨1, false, .other, [], (some (.nilf)), 8, false⟩),
  (102, ⟨4, true, .struct, [(0, 3), (1, 3), (2, 26), (3, 49)], (some (.agg [.int .i64 0, .int .i64 0, .nils, .nils])), 64, false⟩),
  (103, ⟨4, true, .struct, [(0, 3), (1, 3), (2, 26), (3, 49)], (some (.agg [.int .i64 0, .int .i64 0, .nils, .nils])), 64, false⟩),
  (104, ⟨1, false, .other, [], none, 0, false⟩),
  (105, ⟨1, false, .other, [], (some (.nilf)), 8, false⟩),
  (106, ⟨1, false, .other, [], (some (.nilf)), 8, false⟩),
  (107, ⟨1, false, .other, [], (some (.nilf)), 8, false⟩),
  (108, ⟨1, false, .other, [], (some (.nilf)), 8, false⟩),
  (109, ⟨1, false, .other, [], (some (.nilf)), 8, false⟩),
  (110, ⟨1, false, .other, [], (some (.nilf)), 8, false⟩),
  (111, ⟨1, false, .other, [], (some (.nilf)), 8, false⟩),
  (112, ⟨1, false, .other, [], (some (.nilf)), 8, false⟩),
  (113, ⟨1, false, .other, [], (some (.nilf)), 8, false⟩),
  (114, ⟨1, false, .iface, [], (some (.nili)), 16, true⟩),
  (115, ⟨1, false, .iface, [], (some (.nili)), 16, true⟩),
  (116, ⟨1, false, .other, [], (some (.nilf)), 8, false⟩),
  (117, ⟨1, false, .other, [], (some (.nilf)), 8, false⟩),
  (118, ⟨1, false, .other, [], none, 0, false⟩),
  (119, ⟨1, false, .other, [], (some (.nilf)), 8, false⟩),
  (120, ⟨1, false, (.pointer 33), [], (some (.nilp)), 8, true⟩),
  (121, ⟨1, false, .other, [], (some (.nilf)), 8, false⟩),
  (122, ⟨1, false, .other, [], none, 0, false⟩),
  (123, ⟨1, false, .other, [], (some (.nilf)), 8, false⟩),
  (124, ⟨1, false, .other, [], (some (.nilf)), 8, false⟩),
  (125, ⟨1, false, .other, [], (some (.nilf)), 8, false⟩),
  (126, ⟨1, true, .struct, [(0, 63)], (some (.agg [.int .i64 0])), 8, true⟩),
  (127, ⟨1, true, .struct, [(0, 63)], (some (.agg [.int .i64 0])), 8, true⟩),
  (128, ⟨1, false, .other, [], (some (.nilf)), 8, false⟩),
  (129, ⟨1, false, .other, [], (some (.nilf)), 8, false⟩),
  (130, ⟨1, false, .other, [], (some (.nilf)), 8, false⟩),
  (131, ⟨1, false, (.slice 9), [], (some (.nils)), 24, false⟩),
  (132, ⟨1, false, (.pointer 134), [], (some (.nilp)), 8, true⟩),
  (133, ⟨3, true, .struct, [(0, 22), (1, 3), (2, 115)], (some (.agg [.nils, .int .i64 0, .nili])), 48, false⟩),
  (134, ⟨3, true, .struct, [(0, 22), (1, 3), (2, 115)], (some (.agg [.nils, .int .i64 0, .nili])), 48, false⟩),
  (135, ⟨1, true, .struct, [(0, 9)], (some (.agg [.str []])), 16, true⟩),
  (136, ⟨1, true, .struct, [(0, 9)], (some (.agg [.str []])), 16, true⟩),
  (137, ⟨1, false, .other, [], (some (.nilf)), 8, false⟩),
  (138, ⟨1, false, (.pointer 136), [], (some (.nilp)), 8, true⟩),
  (139, ⟨1, false, (.pointer 141), [], (some (.nilp)), 8, true⟩),
  (140, ⟨2, true, .struct, [(0, 22), (1, 4)], (some (.agg [.nils, .bool false])), 32, false⟩),
  (141, ⟨2, true, .struct, [(0, 22), (1, 4)], (some (.agg [.nils, .bool false])), 32, false⟩),
  (142, ⟨1, false, .other, [], (some (.nilf)), 8, false⟩),
  (143, ⟨2, true, .struct, [(0, 3), (1, 3)], (some (.agg [.int .i64 0, .int .i64 0])), 16, true⟩),
  (144, ⟨2, true, .struct, [(0, 3), (1, 3)], (some (.agg [.int .i64 0, .int .i64 0])), 16, true⟩),
  (145, ⟨1, false, .other, [], (some (.nilf)), 8, false⟩),
  (146, ⟨1, false, .other, [], (some (.nilf)), 8, false⟩),
  (147, ⟨1, false, .other, [], (some (.nilf)), 8, false⟩),
  (148, ⟨1, false, .other, [], (some (.nilf)), 8, false⟩),
  (149, ⟨1, false, .other, [], (some (.nilf)), 8, false⟩),
  (150, ⟨1, false, .other, [], (some (.nilf)), 8, false⟩),
  (151, ⟨1, false, .other, [], (some (.nilf)), 8, false⟩),
  (152, ⟨1, false, .other, [], (some (.nilf)), 8, false⟩),
  (153, ⟨1, false, (.slice 243), [], (some (.nils)), 24, false⟩),
  (154, ⟨1, false, .other, [], none, 0, false⟩),
  (155, ⟨1, false, .other, [], (some (.nilf)), 8, false⟩),
  (156, ⟨1, false, .other, [], none, 0, false⟩),
  (157, ⟨1, false, (.pointer 159), [], (some (.nilp)), 8, true⟩),
  (158, ⟨2, true, .struct, [(0, 153), (1, 3)], (some (.agg [.nils, .int .i64 0])), 32, false⟩),
  (159, ⟨2, true, .struct, [(0, 153), (1, 3)], (some (.agg [.nils, .int .i64 0])), 32, false⟩),
  (160, ⟨1, false, .other, [], (some (.nilf)), 8, false⟩),
  (161, ⟨1, true, .struct, [(0, 3)], (some (.agg [.int .i64 0])), 8, true⟩),
  (162, ⟨1, true, .struct, [(0, 3)], (some (.agg [.int .i64 0])), 8, true⟩),
  (163, ⟨1, false, (.pointer 162), [], (some (.nilp)), 8, true⟩),
  (164, ⟨1, false, .other, [], (some (.nilf)), 8, false⟩),
  (165, ⟨1, false, .other, [], (some (.nilf)), 8, false⟩),
  (166, ⟨1, false, .other, [], (some (.nilf)), 8, false⟩),
  (167, ⟨0, true, .struct, [], (some (.agg [])), 0, true⟩),
  (168, ⟨0, true, .struct, [], (some (.agg [])), 0, true⟩),
  (169, ⟨1, false, (.slice 252), [], (some (.nils)), 24, false⟩),
  (170, ⟨1, false, .other, [], none, 0, false⟩),
  (171, ⟨1, false, .other, [], (some (.nilf)), 8, false⟩),
  (172, ⟨1, false, (.pointer 174), [], (some (.nilp)), 8, true⟩),
  (173, ⟨5, true, .struct, [(0, 169), (1, 3), (2, 3), (3, 4), (4, 3)], (some (.agg [.nils, .int .i64 0, .int .i64 0, .bool false, .int .i64 0])), 56, false⟩),
  (174, ⟨5, true, .struct, [(0, 169), (1, 3), (2, 3), (3, 4), (4, 3)], (some (.agg [.nils, .int .i64 0, .int .i64 0, .bool false, .int .i64 0])), 56, false⟩),
  (175, ⟨1, false, .other, [], (some (.nilf)), 8, false⟩),
  (176, ⟨1, false, .other, [], (some (.nilf)), 8, false⟩),
  (177, ⟨1, false, .other, [], (some (.nilf)), 8, false⟩),
  (178, ⟨1, false, .other, [], (some (.nilf)), 8, false⟩),
  (179, ⟨1, false, .other, [], (some (.nilf)), 8, false⟩),
  (180, ⟨1, false, .other, [], (some (.nilf)), 8, false⟩),
  (181, ⟨1, false, .other, [], none, 0, false⟩),
  (182, ⟨1, false, .other, [], (some (.nilf)), 8, false⟩),
  (183, ⟨1, false, .other, [], none, 0, false⟩),
  (184, ⟨1, false, .other, [], (some (.nilf)), 8, false⟩),
  (185, ⟨4, true, .struct, [(0, 3), (1, 3), (2, 9), (3, 4)], (some (.agg [.int .i64 0, .int .i64 0, .str [], .bool false])), 40, true⟩),
  (186, ⟨4, true, .struct, [(0, 3), (1, 3), (2, 9), (3, 4)], (some (.agg [.int .i64 0, .int .i64 0, .str [], .bool false])), 40, true⟩),
  (187, ⟨1, false, .other, [], none, 0, false⟩),
  (188, ⟨1, false, .other, [], (some (.nilf)), 8, false⟩),
  (189, ⟨1, false, .other, [], (some (.nilf)), 8, false⟩),
  (190, ⟨1, false, .other, [], (some (.nilf)), 8, false⟩),
  (191, ⟨1, false, .other, [], (some (.nilf)), 8, false⟩),
  (192, ⟨1, false, .other, [], (some (.nilf)), 8, false⟩),
  (193, ⟨1, false, .other, [], (some (.nilf)), 8, false⟩),
  (194, ⟨1, false, .other, [], (some (.nilf)), 8, false⟩),
  (195, ⟨1, false, .other, [], (some (.nilf)), 8, false⟩),
  (196, ⟨1, false, .other, [], (some (.nilf)), 8, false⟩),
  (197, ⟨1, false, .other, [], (some (.nilf)), 8, false⟩),
  (198, ⟨1, false, .other, [], (some (.nilf)), 8, false⟩),
  (199, ⟨1, false, .other, [], (some (.nilf)), 8, false⟩),
  (200, ⟨1, false, .other, [], (some (.nilf)), 8, false⟩),
  (201, ⟨1, false, .other, [], (some (.nilf)), 8, false⟩),
  (202, ⟨1, false, .other, [], (some (.nilf)), 8, false⟩),
  (203, ⟨2, true, .struct, [(0, 9), (1, 115)], (some (.agg [.str [], .nili])), 32, false⟩),
  (204, ⟨2, true, .struct, [(0, 9), (1, 115)], (some (.agg [.str [], .nili])), 32, false⟩),
  (205, ⟨1, false, (.pointer 127), [], (some (.nilp)), 8, true⟩),
  (206, ⟨1, false, .other, [], (some (.nilf)), 8, false⟩),
  (207, ⟨1, false, .other, [], (some (.nilf)), 8, false⟩),
  (208, ⟨1, false, .other, [], (some (.nilf)), 8, false⟩),
  (209, ⟨1, false, .other, [], (some (.nilf)), 8, false⟩),
  (210, ⟨1, false, .other, [], none, 0, false⟩),
  (211, ⟨1, false, .other, [], (some (.nilf)), 8, false⟩),
  (212, ⟨1, false, .other, [], (some (.nilf)), 8, false⟩),
  (213, ⟨1, false, .other, [], (some (.nilf)), 8, false⟩),
  (214, ⟨1, false, .other, [], (some (.nilf)), 8, false⟩),
  (215, ⟨1, false, .other, [], (some (.nilf)), 8, false⟩),
  (216, ⟨1, false, .other, [], (some (.nilf)), 8, false⟩),
  (217, ⟨1, true, .struct, [(0, 115)], (some (.agg [.nili])), 16, false⟩),
  (218, ⟨1, true, .struct, [(0, 115)], (some (.agg [.nili])), 16, false⟩),
  (219, ⟨1, false, .other, [], (some (.nilp)), 8, true⟩),
  (220, ⟨1, false, (.int .u64), [], (some (.int .u64 0)), 8, true⟩),
  (221, ⟨3, true, .struct, [(0, 17), (1, 219), (2, 220)], (some (.agg [.nilp, .nilp, .int .u64 0])), 24, false⟩),
  (222, ⟨3, true, .struct, [(0, 17), (1, 219), (2, 220)], (some (.agg [.nilp, .nilp, .int .u64 0])), 24, false⟩),
  (223, ⟨1, false, .other, [], (some (.nilf)), 8, false⟩),
  (224, ⟨1, false, .iface, [], (some (.nili)), 16, true⟩),
  (225, ⟨1, false, .iface, [], (some (.nili)), 16, true⟩),
  (226, ⟨1, false, .other, [], (some (.nilf)), 8, false⟩),
  (227, ⟨1, false, (.int .u8), [], (some (.int .u8 0)), 1, true⟩),
  (228, ⟨1, false, .other, [], (some (.nilf)), 8, false⟩),
  (229, ⟨1, false, .other, [], (some (.nilf)), 8, false⟩),
  (230, ⟨1, false, .other, [], (some (.nilf)), 8, false⟩),
  (231, ⟨1, false, .other, [], none, 0, false⟩),
  (232, ⟨1, false, .other, [], (some (.nilf)), 8, false⟩),
  (233, ⟨1, false, .other, [], none, 0, false⟩),
  (234, ⟨1, false, .other, [], (some (.nilf)), 8, false⟩),
  (235, ⟨1, false, .other, [], (some (.nilf)), 8, false⟩),
  (236, ⟨1, false, (.pointer 286), [], (some (.nilp)), 8, true⟩),
  (237, ⟨1, false, .other, [], (some (.nilf)), 8, false⟩),
  (238, ⟨1, false, (.pointer 236), [], (some (.nilp)), 8, true⟩),
  (239, ⟨1, false, .other, [], (some (.nilf)), 8, false⟩),
  (240, ⟨1, false, (.int .u64), [], (some (.int .u64 0)), 8, true⟩),
  (241, ⟨1, false, .other, [], (some (.nilf)), 8, false⟩),
  (242, ⟨4, true, .struct, [(0, 3), (1, 9), (2, 3), (3, 3)], (some (.agg [.int .i64 0, .str [], .int .i64 0, .int .i64 0])), 40, true⟩),
  (243, ⟨4, true, .struct, [(0, 3), (1, 9), (2, 3), (3, 3)], (some (.agg [.int .i64 0, .str [], .int .i64 0, .int .i64 0])), 40, true⟩),
  (244, ⟨1, false, .other, [], none, 0, false⟩),
  (245, ⟨1, false, .other, [], (some (.nilf)), 8, false⟩),
  (246, ⟨1, false, .other, [], (some (.nilf)), 8, false⟩),
  (247, ⟨1, false, .other, [], (some (.nilf)), 8, false⟩),
  (248, ⟨1, false, .other, [], (some (.nilf)), 8, false⟩),
  (249, ⟨1, false, .other, [], (some (.nilf)), 8, false⟩),
  (250, ⟨1, true, .struct, [(0, 115)], (some (.agg [.nili])), 16, false⟩),
  (251, ⟨1, true, .struct, [(0, 115)], (some (.agg [.nili])), 16, false⟩),
  (252, ⟨4, true, .struct, [(0, 3), (1, 9), (2, 3), (3, 3)], (some (.agg [.int .i64 0, .str [], .int .i64 0, .int .i64 0])), 40, true⟩),
  (253, ⟨1, false, .other, [], none, 0, false⟩),
  (254, ⟨1, false, .other, [], (some (.nilf)), 8, false⟩),
  (255, ⟨1, false, .other, [], (some (.nilf)), 8, false⟩),
  (256, ⟨1, false, .other, [], (some (.nilf)), 8, false⟩),
  (257, ⟨1, false, .other, [], (some (.nilf)), 8, false⟩),
  (258, ⟨1, false, .other, [], (some (.nilf)), 8, false⟩),
  (259, ⟨1, false, (.int .u16), [], (some (.int .u16 0)), 2, true⟩),
  (260, ⟨1, false, .other, [], (some (.nilf)), 8, false⟩),
  (261, ⟨1, false, .other, [], (some (.nilf)), 8, false⟩),
  (262, ⟨1, false, .other, [], (some (.nilf)), 8, false⟩),
  (263, ⟨1, false, .other, [], (some (.nilf)), 8, false⟩),
  (264, ⟨3, true, (.array 3 3), [(0, 3), (1, 3), (2, 3)], (some (.agg [.int .i64 0, .int .i64 0, .int .i64 0])), 24, true⟩),
  (265, ⟨1, false, .other, [], (some (.nilf)), 8, false⟩),
  (266, ⟨1, false, .other, [], (some (.nilf)), 8, false⟩),
  (267, ⟨1, false, .other, [], (some (.nilf)), 8, false⟩),
  (268, ⟨1, false, .other, [], (some (.nilf)), 8, false⟩),
  (269, ⟨1, false, .other, [], (some (.nilf)), 8, false⟩),
  (270, ⟨1, false, .other, [], (some (.nilf)), 8, false⟩),
  (271, ⟨1, false, .other, [], (some (.nilf)), 8, false⟩),
  (272, ⟨1, false, .other, [], (some (.nilf)), 8, false⟩),
  (273, ⟨1, true, .struct, [(0, 17)], (some (.agg [.nilp])), 8, false⟩),
  (274, ⟨1, true, .struct, [(0, 17)], (some (.agg [.nilp])), 8, false⟩),
  (275, ⟨1, false, (.pointer 362), [], (some (.nilp)), 8, true⟩),
  (276, ⟨1, false, .other, [], (some (.nilf)), 8, false⟩),
  (277, ⟨1, false, .other, [], (some (.nilf)), 8, false⟩),
  (278, ⟨1, false, .iface, [], (some (.nili)), 16, true⟩),
  (279, ⟨1, false, .other, [], none, 0, false⟩),
  (280, ⟨1, false, .other, [], (some (.nilf)), 8, false⟩),
  (281, ⟨1, false, .iface, [], (some (.nili)), 16, true⟩),
  (282, ⟨1, false, .iface, [], (some (.nili)), 16, true⟩),
  (283, ⟨1, false, (.slice 115), [], (some (.nils)), 24, false⟩),
  (284, ⟨1, false, .other, [], (some (.nilf)), 8, false⟩),
  (285, ⟨1, true, .struct, [(0, 9)], (some (.agg [.str []])), 16, true⟩),
  (286, ⟨1, true, .struct, [(0, 9)], (some (.agg [.str []])), 16, true⟩),
  (287, ⟨1, true, .struct, [(0, 115)], (some (.agg [.nili])), 16, false⟩),
  (288, ⟨1, true, .struct, [(0, 115)], (some (.agg [.nili])), 16, false⟩),
  (289, ⟨1, false, .other, [], (some (.nilf)), 8, false⟩),
  (290, ⟨1, false, .other, [], (some (.nilf)), 8, false⟩),
  (291, ⟨1, false, .other, [], (some (.nilf)), 8, false⟩),
  (292, ⟨1, false, .other, [], (some (.nilf)), 8, false⟩),
  (293, ⟨1, false, .iface, [], (some (.nili)), 16, true⟩),
  (294, ⟨1, false, .other, [], none, 0, false⟩),
  (295, ⟨1, false, .other, [], (some (.nilf)), 8, false⟩),
  (296, ⟨1, false, .other, [], (some (.nilf)), 8, false⟩),
  (297, ⟨0, true, .struct, [], (some (.agg [])), 0, true⟩),
  (298, ⟨1, false, .other, [], (some (.nilf)), 8, false⟩),
  (299, ⟨1, false, (.int .u32), [], (some (.int .u32 0)), 4, true⟩),
  (300, ⟨1, false, .other, [], (some (.nilf)), 8, false⟩),
  (301, ⟨1, false, .other, [], (some (.nilf)), 8, false⟩),
  (302, ⟨1, false, .other, [], (some (.nilf)), 8, false⟩),
  (303, ⟨1, false, .other, [], (some (.nilf)), 8, false⟩),
  (304, ⟨1, false, .other, [], none, 0, false⟩),
  (305, ⟨1, false, .other, [], (some (.nilf)), 8, false⟩),
  (306, ⟨0, true, .struct, [], (some (.agg [])), 0, true⟩),
  (307, ⟨0, true, .struct, [], (some (.agg [])), 0, true⟩),
  (308, ⟨1, false, .other, [], (some (.nilf)), 8, false⟩),
  (309, ⟨1, false, .other, [], (some (.nilf)), 8, false⟩),
  (310, ⟨1, false, .other, [], (some (.nilf)), 8, false⟩),
  (311, ⟨1, false, .other, [], (some (.nilf)), 8, false⟩),
  (312, ⟨1, false, .other, [], (some (.nilf)), 8, false⟩),
  (313, ⟨1, false, .other, [], (some (.nilf)), 8, false⟩),
  (314, ⟨1, false, .other, [], (some (.nilf)), 8, false⟩),
  (315, ⟨1, true, .struct, [(0, 115)], (some (.agg [.nili])), 16, false⟩),
  (316, ⟨1, true, .struct, [(0, 115)], (some (.agg [.nili])), 16, false⟩),
  (317, ⟨1, false, .other, [], (some (.nilf)), 8, false⟩),
  (318, ⟨256, true, (.array 256 4), [], (some (.agg [.bool false, .bool false, .bool false, .bool false, .bool false, .bool false, .bool false, .bool false, .bool false, .bool false, .bool false, .bool false, .bool false, .bool false, .bool false, .bool false, .bool false, .bool false, .bool false, .bool false, .bool false, .bool false, .bool false, .bool false, .bool false, .bool false, .bool false, .bool false, .bool false, .bool false, .bool false, .bool false, .bool false, .bool false, .bool false, .bool false, .bool false, .bool false, .bool false, .bool false, .bool false, .bool false, .bool false, .bool false, .bool false, .bool false, .bool false, .bool false, .bool false, .bool false, .bool false, .bool false, .bool false, .bool false, .bool false, .bool false, .bool false, .bool false, .bool false, .bool false, .bool false, .bool false, .bool false, .bool false, .bool false, .bool false, .bool false, .bool false, .bool false, .bool false, .bool false, .bool false, .bool false, .bool false, .bool false, .bool false, .bool false, .bool false, .bool false, .bool false, .bool false, .bool false, .bool false, .bool false, .bool false, .bool false, .bool false, .bool false, .bool false, .bool false, .bool false, .bool false, .bool false, .bool false, .bool false, .bool false, .bool false, .bool false, .bool false, .bool false, .bool false, .bool false, .bool false, .bool false, .bool false, .bool false, .bool false, .bool false, .bool false, .bool false, .bool false, .bool false, .bool false, .bool false, .bool false, .bool false, .bool false, .bool false, .bool false, .bool false, .bool false, .bool false, .bool false, .bool false, .bool false, .bool false, .bool false, .bool false, .bool false, .bool false, .bool false, .bool false, .bool false, .bool false, .bool false, .bool false, .bool false, .bool false, .bool false, .bool false, .bool false, .bool false, .bool false, .bool false, .bool false, .bool false, .bool false, .bool false, .bool false, .bool false, .bool false, .bool false, .bool false, .bool false, .bool false, .bool false, .bool false, .bool false, .bool false, .bool false, .bool false, .bool false, .bool false, .bool false, .bool false, .bool false, .bool false, .bool false, .bool false, .bool false, .bool false, .bool false, .bool false, .bool false, .bool false, .bool false, .bool false, .bool false, .bool false, .bool false, .bool false, .bool false, .bool false, .bool false, .bool false, .bool false, .bool false, .bool false, .bool false, .bool false, .bool false, .bool false, .bool false, .bool false, .bool false, .bool false, .bool false, .bool false, .bool false, .bool false, .bool false, .bool false, .bool false, .bool false, .bool false, .bool false, .bool false, .bool false, .bool false, .bool false, .bool false, .bool false, .bool false, .bool false, .bool false, .bool false, .bool false, .bool false, .bool false, .bool false, .bool false, .bool false, .bool false, .bool false, .bool false, .bool false, .bool false, .bool false, .bool false, .bool false, .bool false, .bool false, .bool false, .bool false, .bool false, .bool false, .bool false, .bool false, .bool false, .bool false, .bool false, .bool false, .bool false, .bool false, .bool false, .bool false, .bool false, .bool false, .bool false, .bool false, .bool false, .bool false, .bool false, .bool false, .bool false, .bool false])), 256, true⟩),
  (319, ⟨256, true, (.array 256 4), [], (some (.agg [.bool false, .bool false, .bool false, .bool false, .bool false, .bool false, .bool false, .bool false, .bool false, .bool false, .bool false, .bool false, .bool false, .bool false, .bool false, .bool false, .bool false, .bool false, .bool false, .bool false, .bool false, .bool false, .bool false, .bool false, .bool false, .bool false, .bool false, .bool false, .bool false, .bool false, .bool false, .bool false, .bool false, .bool false, .bool false, .bool false, .bool false, .bool false, .bool false, .bool false, .bool false, .bool false, .bool false, .bool false, .bool false, .bool false, .bool false, .bool false, .bool false, .bool false, .bool false, .bool false, .bool false, .bool false, .bool false, .bool false, .bool false, .bool false, .bool false, .bool false, .bool false, .bool false, .bool false, .bool false, .bool false, .bool false, .bool false, .bool false, .bool false, .bool false, .bool false, .bool false, .bool false, .bool false, .bool false, .bool false, .bool false, .bool false, .bool false, .bool false, .bool false, .bool false, .bool false, .bool false, .bool false, .bool false, .bool false, .bool false, .bool false, .bool false, .bool false, .bool false, .bool false, .bool false, .bool false, .bool false, .bool false, .bool false, .bool false, .bool false, .bool false, .bool false, .bool false, .bool false, .bool false, .bool false, .bool false, .bool false, .bool false, .bool false, .bool false, .bool false, .bool false, .bool false, .bool false, .bool false, .bool false, .bool false, .bool false, .bool false, .bool false, .bool false, .bool false, .bool false, .bool false, .bool false, .bool false, .bool false, .bool false, .bool false, .bool false, .bool false, .bool false, .bool false, .bool false, .bool false, .bool false, .bool false, .bool false, .bool false, .bool false, .bool false, .bool false, .bool false, .bool false, .bool false, .bool false, .bool false, .bool false, .bool false, .bool false, .bool false, .bool false, .bool false, .bool false, .bool false, .bool false, .bool false, .bool false, .bool false, .bool false, .bool false, .bool false, .bool false, .bool false, .bool false, .bool false, .bool false, .bool false, .bool false, .bool false, .bool false, .bool false, .bool false, .bool false, .bool false, .bool false, .bool false, .bool false, .bool false, .bool false, .bool false, .bool false, .bool false, .bool false, .bool false, .bool false, .bool false, .bool false, .bool false, .bool false, .bool false, .bool false, .bool false, .bool false, .bool false, .bool false, .bool false, .bool false, .bool false, .bool false, .bool false, .bool false, .bool false, .bool false, .bool false, .bool false, .bool false, .bool false, .bool false, .bool false, .bool false, .bool false, .bool false, .bool false, .bool false, .bool false, .bool false, .bool false, .bool false, .bool false, .bool false, .bool false, .bool false, .bool false, .bool false, .bool false, .bool false, .bool false, .bool false, .bool false, .bool false, .bool false, .bool false, .bool false, .bool false, .bool false, .bool false, .bool false, .bool false, .bool false, .bool false, .bool false, .bool false, .bool false, .bool false, .bool false, .bool false, .bool false, .bool false, .bool false, .bool false, .bool false, .bool false, .bool false, .bool false])), 256, true⟩),
  (320, ⟨1, false, .other, [], none, 0, false⟩),
  (321, ⟨1, false, .other, [], (some (.nilf)), 8, false⟩),
  (322, ⟨1, false, .other, [], (some (.nilf)), 8, false⟩),
  (323, ⟨1, false, (.pointer 319), [], (some (.nilp)), 8, true⟩),
  (324, ⟨1, false, .other, [], none, 0, false⟩),
  (325, ⟨1, false, .other, [], (some (.nilf)), 8, false⟩),
  (326, ⟨2, true, .struct, [(0, 9), (1, 115)], (some (.agg [.str [], .nili])), 32, false⟩),
  (327, ⟨2, true, .struct, [(0, 9), (1, 115)], (some (.agg [.str [], .nili])), 32, false⟩),
  (328, ⟨1, false, .other, [], (some (.nilf)), 8, false⟩),
  (329, ⟨1, false, (.pointer 331), [], (some (.nilp)), 8, true⟩),
  (330, ⟨1, true, .struct, [(0, 283)], (some (.agg [.nils])), 24, false⟩),
  (331, ⟨1, true, .struct, [(0, 283)], (some (.agg [.nils])), 24, false⟩),
  (332, ⟨2, true, .struct, [(0, 9), (1, 115)], (some (.agg [.str [], .nili])), 32, false⟩),
  (333, ⟨2, true, .struct, [(0, 9), (1, 115)], (some (.agg [.str [], .nili])), 32, false⟩),
  (334, ⟨1, false, .other, [], none, 0, false⟩),
  (335, ⟨1, false, .other, [], (some (.nilf)), 8, false⟩),
  (336, ⟨1, false, .other, [], (some (.nilf)), 8, false⟩),
  (337, ⟨1, false, .other, [], (some (.nilf)), 8, false⟩),
  (338, ⟨1, false, .other, [], (some (.nilf)), 8, false⟩),
  (339, ⟨1, false, .other, [], (some (.nilf)), 8, false⟩),
  (340, ⟨256, true, (.array 256 5), [], (some (.agg [.int .u8 0, .int .u8 0, .int .u8 0, .int .u8 0, .int .u8 0, .int .u8 0, .int .u8 0, .int .u8 0, .int .u8 0, .int .u8 0, .int .u8 0, .int .u8 0, .int .u8 0, .int .u8 0, .int .u8 0, .int .u8 0, .int .u8 0, .int .u8 0, .int .u8 0, .int .u8 0, .int .u8 0, .int .u8 0, .int .u8 0, .int .u8 0, .int .u8 0, .int .u8 0, .int .u8 0, .int .u8 0, .int .u8 0, .int .u8 0, .int .u8 0, .int .u8 0, .int .u8 0, .int .u8 0, .int .u8 0, .int .u8 0, .int .u8 0, .int .u8 0, .int .u8 0, .int .u8 0, .int .u8 0, .int .u8 0, .int .u8 0, .int .u8 0, .int .u8 0, .int .u8 0, .int .u8 0, .int .u8 0, .int .u8 0, .int .u8 0, .int .u8 0, .int .u8 0, .int .u8 0, .int .u8 0, .int .u8 0, .int .u8 0, .int .u8 0, .int .u8 0, .int .u8 0, .int .u8 0, .int .u8 0, .int .u8 0, .int .u8 0, .int .u8 0, .int .u8 0, .int .u8 0, .int .u8 0, .int .u8 0, .int .u8 0, .int .u8 0, .int .u8 0, .int .u8 0, .int .u8 0, .int .u8 0, .int .u8 0, .int .u8 0, .int .u8 0, .int .u8 0, .int .u8 0, .int .u8 0, .int .u8 0, .int .u8 0, .int .u8 0, .int .u8 0, .int .u8 0, .int .u8 0, .int .u8 0, .int .u8 0, .int .u8 0, .int .u8 0, .int .u8 0, .int .u8 0, .int .u8 0, .int .u8 0, .int .u8 0, .int .u8 0, .int .u8 0, .int .u8 0, .int .u8 0, .int .u8 0, .int .u8 0, .int .u8 0, .int .u8 0, .int .u8 0, .int .u8 0, .int .u8 0, .int .u8 0, .int .u8 0, .int .u8 0, .int .u8 0, .int .u8 0, .int .u8 0, .int .u8 0, .int .u8 0, .int .u8 0, .int .u8 0, .int .u8 0, .int .u8 0, .int .u8 0, .int .u8 0, .int .u8 0, .int .u8 0, .int .u8 0, .int .u8 0, .int .u8 0, .int .u8 0, .int .u8 0, .int .u8 0, .int .u8 0, .int .u8 0, .int .u8 0, .int .u8 0, .int .u8 0, .int .u8 0, .int .u8 0, .int .u8 0, .int .u8 0, .int .u8 0, .int .u8 0, .int .u8 0, .int .u8 0, .int .u8 0, .int .u8 0, .int .u8 0, .int .u8 0, .int .u8 0, .int .u8 0, .int .u8 0, .int .u8 0, .int .u8 0, .int .u8 0, .int .u8 0, .int .u8 0, .int .u8 0, .int .u8 0, .int .u8 0, .int .u8 0, .int .u8 0, .int .u8 0, .int .u8 0, .int .u8 0, .int .u8 0, .int .u8 0, .int .u8 0, .int .u8 0, .int .u8 0, .int .u8 0, .int .u8 0, .int .u8 0, .int .u8 0, .int .u8 0, .int .u8 0, .int .u8 0, .int .u8 0, .int .u8 0, .int .u8 0, .int .u8 0, .int .u8 0, .int .u8 0, .int .u8 0, .int .u8 0, .int .u8 0, .int .u8 0, .int .u8 0, .int .u8 0, .int .u8 0, .int .u8 0, .int .u8 0, .int .u8 0, .int .u8 0, .int .u8 0, .int .u8 0, .int .u8 0, .int .u8 0, .int .u8 0, .int .u8 0, .int .u8 0, .int .u8 0, .int .u8 0, .int .u8 0, .int .u8 0, .int .u8 0, .int .u8 0, .int .u8 0, .int .u8 0, .int .u8 0, .int .u8 0, .int .u8 0, .int .u8 0, .int .u8 0, .int .u8 0, .int .u8 0, .int .u8 0, .int .u8 0, .int .u8 0, .int .u8 0, .int .u8 0, .int .u8 0, .int .u8 0, .int .u8 0, .int .u8 0, .int .u8 0, .int .u8 0, .int .u8 0, .int .u8 0, .int .u8 0, .int .u8 0, .int .u8 0, .int .u8 0, .int .u8 0, .int .u8 0, .int .u8 0, .int .u8 0, .int .u8 0, .int .u8 0, .int .u8 0, .int .u8 0, .int .u8 0, .int .u8 0, .int .u8 0, .int .u8 0, .int .u8 0, .int .u8 0, .int .u8 0, .int .u8 0, .int .u8 0, .int .u8 0, .int .u8 0, .int .u8 0, .int .u8 0, .int .u8 0, .int .u8 0, .int .u8 0, .int .u8 0, .int .u8 0, .int .u8 0])), 256, true⟩),
  (341, ⟨2, true, .struct, [(0, 5), (1, 5)], (some (.agg [.int .u8 0, .int .u8 0])), 2, true⟩),
  (342, ⟨2, true, .struct, [(0, 5), (1, 5)], (some (.agg [.int .u8 0, .int .u8 0])), 2, true⟩),
  (343, ⟨32, true, (.array 16 342), [(0, 342), (2, 342), (4, 342), (6, 342), (8, 342), (10, 342), (12, 342), (14, 342), (16, 342), (18, 342), (20, 342), (22, 342), (24, 342), (26, 342), (28, 342), (30, 342)], (some (.agg [.int .u8 0, .int .u8 0, .int .u8 0, .int .u8 0, .int .u8 0, .int .u8 0, .int .u8 0, .int .u8 0, .int .u8 0, .int .u8 0, .int .u8 0, .int .u8 0, .int .u8 0, .int .u8 0, .int .u8 0, .int .u8 0, .int .u8 0, .int .u8 0, .int .u8 0, .int .u8 0, .int .u8 0, .int .u8 0, .int .u8 0, .int .u8 0, .int .u8 0, .int .u8 0, .int .u8 0, .int .u8 0, .int .u8 0, .int .u8 0, .int .u8 0, .int .u8 0])), 32, true⟩),
  (344, ⟨1, false, .other, [], (some (.nilf)), 8, false⟩),
  (345, ⟨1, false, .other, [], (some (.nilf)), 8, false⟩),
  (346, ⟨4, true, .struct, [(0, 17), (1, 17), (2, 17), (3, 9)], (some (.agg [.nilp, .nilp, .nilp, .str []])), 40, false⟩),
  (347, ⟨4, true, .struct, [(0, 17), (1, 17), (2, 17), (3, 9)], (some (.agg [.nilp, .nilp, .nilp, .str []])), 40, false⟩),
  (348, ⟨0, true, (.array 0 16), [], (some (.agg [])), 0, true⟩),
  (349, ⟨0, true, .struct, [(0, 348)], (some (.agg [])), 0, false⟩),
  (350, ⟨0, true, .struct, [(0, 348)], (some (.agg [])), 0, false⟩),
  (351, ⟨1, false, .other, [], (some (.nilf)), 8, false⟩),
  (352, ⟨1, false, (.int .u8), [], (some (.int .u8 0)), 1, true⟩),
  (353, ⟨1, false, .other, [], (some (.nilf)), 8, false⟩),
  (354, ⟨1, false, (.pointer 5), [], (some (.nilp)), 8, true⟩),
  (355, ⟨1, false, (.int .i32), [], (some (.int .i32 0)), 4, true⟩),
  (356, ⟨1, false, (.int .i32), [], (some (.int .i32 0)), 4, true⟩),
  (357, ⟨11, true, .struct, [(0, 12), (1, 12), (2, 299), (3, 352), (4, 5), (5, 5), (6, 227), (7, 353), (8, 354), (9, 355), (10, 356)], (some (.agg [.int .u64 0, .int .u64 0, .int .u32 0, .int .u8 0, .int .u8 0, .int .u8 0, .int .u8 0, .nilf, .nilp, .int .i32 0, .int .i32 0])), 48, false⟩),
  (358, ⟨11, true, .struct, [(0, 12), (1, 12), (2, 299), (3, 352), (4, 5), (5, 5), (6, 227), (7, 353), (8, 354), (9, 355), (10, 356)], (some (.agg [.int .u64 0, .int .u64 0, .int .u32 0, .int .u8 0, .int .u8 0, .int .u8 0, .int .u8 0, .nilf, .nilp, .int .i32 0, .int .i32 0])), 48, false⟩),
  (359, ⟨1, false, .other, [], (some (.nilf)), 8, false⟩),
  (360, ⟨1, false, .other, [], (some (.nilf)), 8, false⟩),
  (361, ⟨2, true, .struct, [(0, 9), (1, 227)], (some (.agg [.str [], .int .u8 0])), 24, false⟩),
  (362, ⟨2, true, .struct, [(0, 9), (1, 227)], (some (.agg [.str [], .int .u8 0])), 24, false⟩),
  (363, ⟨1, false, (.pointer 366), [], (some (.nilp)), 8, true⟩),
  (364, ⟨1, false, .other, [], (some (.nilf)), 8, false⟩),
  (365, ⟨5, true, .struct, [(0, 355), (1, 259), (2, 259), (3, 299), (4, 299)], (some (.agg [.int .i32 0, .int .u16 0, .int .u16 0, .int .u32 0, .int .u32 0])), 16, false⟩),
  (366, ⟨5, true, .struct, [(0, 355), (1, 259), (2, 259), (3, 299), (4, 299)], (some (.agg [.int .i32 0, .int .u16 0, .int .u16 0, .int .u32 0, .int .u32 0])), 16, false⟩),
  (367, ⟨1, false, (.slice 370), [], (some (.nils)), 24, false⟩),
  (368, ⟨1, false, (.int .i32), [], (some (.int .i32 0)), 4, true⟩),
  (369, ⟨4, true, .struct, [(0, 355), (1, 356), (2, 368), (3, 368)], (some (.agg [.int .i32 0, .int .i32 0, .int .i32 0, .int .i32 0])), 16, false⟩),
  (370, ⟨4, true, .struct, [(0, 355), (1, 356), (2, 368), (3, 368)], (some (.agg [.int .i32 0, .int .i32 0, .int .i32 0, .int .i32 0])), 16, false⟩),
  (371, ⟨1, false, (.pointer 115), [], (some (.nilp)), 8, true⟩)]
def Tryz.plans : List (Nat × Nat × Plan) := [
  (3, 15, (.sil 0 (.sil 1 (.sil 2 (.sil 3 (.sil 4 (.sil 5 (.sil 6 (.sil 7 (.sil 8 (.sil 9 (.sil 10 .stop)))))))))))),
  (3, 17, (.sil 0 (.sil 1 (.sil 2 (.sil 3 (.sil 4 (.eff 5 (.sil 6 .stop)))))))),
  (5, 8, (.sil 0 (.sil 1 (.sil 3 (.sil 4 (.eff 2 (.eff 5 (.sil 6 .stop)))))))),
  (5, 13, (.sil 0 (.sil 1 (.sil 2 (.sil 3 (.sil 4 (.eff 5 (.sil 6 (.sil 7 (.sil 8 (.sil 9 (.sil 10 (.sil 11 (.sil 12 (.sil 13 (.sil 14 (.sil 15 (.sil 17 (.sil 18 (.sil 19 (.sil 20 (.sil 21 (.sil 22 (.sil 23 (.sil 24 (.eff 16 (.eff 25 (.sil 26 (.sil 27 (.sil 28 (.sil 29 (.sil 30 (.sil 31 (.sil 32 (.sil 33 (.sil 35 (.sil 36 (.sil 37 (.sil 38 (.sil 39 (.eff 34 (.eff 40 (.sil 41 (.sil 42 .stop)))))))))))))))))))))))))))))))))))))))))))),
  (6, 14, (.sil 0 (.sil 1 (.sil 2 (.sil 3 (.sil 4 (.sil 5 (.sil 6 (.sil 7 (.sil 8 (.sil 9 (.sil 10 .stop)))))))))))),
  (6, 15, (.sil 0 (.sil 1 (.sil 2 (.sil 3 (.sil 4 (.sil 5 (.sil 6 (.sil 7 (.sil 8 (.sil 9 (.sil 10 (.sil 11 (.sil 12 (.sil 13 (.sil 14 (.sil 15 (.sil 16 (.sil 17 (.sil 18 (.sil 19 (.sil 20 (.sil 21 (.sil 22 (.sil 23 (.eff 24 .stop)))))))))))))))))))))))))),
  (6, 16, (.sil 0 (.sil 1 (.sil 2 (.sil 3 (.sil 4 (.sil 5 (.sil 6 (.sil 7 (.sil 8 (.sil 9 (.sil 10 (.sil 11 (.sil 12 (.sil 13 (.sil 14 (.sil 15 (.sil 16 (.sil 17 (.sil 18 (.sil 19 (.sil 20 (.sil 21 (.sil 22 (.sil 23 (.eff 24 .stop)))))))))))))))))))))))))),
  (6, 23, (.sil 0 (.sil 1 (.sil 2 (.sil 3 (.sil 4 (.sil 5 (.sil 6 (.sil 7 (.sil 8 (.sil 9 (.sil 10 (.sil 11 (.sil 12 (.sil 13 .stop))))))))))))))),
  (7, 17, (.sil 0 (.sil 1 (.sil 2 (.sil 3 (.sil 4 (.sil 5 (.sil 6 (.sil 7 (.sil 8 (.sil 9 (.sil 10 (.sil 11 (.sil 12 (.sil 13 (.sil 14 (.sil 15 (.sil 16 .stop)))))))))))))))))),
  (7, 18, (.sil 0 (.sil 1 (.sil 2 (.sil 3 (.sil 4 (.sil 5 (.sil 6 (.sil 7 (.sil 8 (.sil 9 (.sil 10 (.sil 11 (.sil 12 (.eff 13 .stop))))))))))))))),
  (7, 19, (.sil 0 (.sil 1 (.sil 2 (.sil 3 (.sil 4 (.sil 5 (.sil 7 (.sil 8 (.sil 9 (.eff 6 (.eff 10 (.sil 11 .stop))))))))))))),
  (7, 20, (.sil 0 (.sil 1 (.sil 2 (.sil 3 (.sil 4 (.sil 5 (.sil 6 (.sil 7 (.sil 8 (.eff 9 (.eff 10 (.sil 11 .stop))))))))))))),
  (7, 26, (.sil 0 (.sil 1 (.sil 2 (.sil 3 (.sil 4 (.sil 5 (.sil 6 (.sil 7 (.sil 8 (.sil 9 (.sil 10 (.sil 11 (.sil 12 (.sil 13 (.sil 14 (.sil 15 (.sil 16 (.sil 17 (.sil 18 (.sil 19 (.sil 20 (.sil 21 (.sil 22 (.sil 23 (.sil 24 (.sil 25 (.sil 26 (.sil 27 (.sil 28 (.sil 29 (.sil 30 (.sil 31 (.sil 32 (.sil 33 (.sil 34 (.sil 35 (.sil 36 (.sil 37 (.sil 38 .stop)))))))))))))))))))))))))))))))))))))))),
  (8, 19, (.sil 0 (.sil 1 (.sil 2 (.sil 3 (.sil 4 (.eff 5 (.sil 6 (.sil 7 (.sil 8 (.sil 9 (.sil 10 (.eff 11 (.sil 12 (.sil 13 (.sil 14 (.sil 15 .stop))))))))))))))))),
  (10, 8, (.sil 0 (.sil 3 (.eff 1 (.sil 2 (.eff 4 (.sil 5 (.sil 6 (.sil 7 (.sil 9 (.sil 13 (.alt (.eff 8 (.alt (.eff 10 (.sil 11 (.eff 12 (.eff 14 (.sil 15 (.sil 16 (.sil 17 (.sil 18 (.sil 19 (.sil 20 (.sil 21 (.sil 22 (.sil 23 (.sil 24 (.sil 25 (.sil 26 (.sil 27 (.sil 28 (.sil 29 (.sil 30 (.eff 31 (.sil 32 (.sil 33 .stop))))))))))))))))))))))) (.eff 12 (.eff 10 (.sil 11 (.eff 14 (.sil 15 (.sil 16 (.sil 17 (.sil 18 (.sil 19 (.sil 20 (.sil 21 (.sil 22 (.sil 23 (.sil 24 (.sil 25 (.sil 26 (.sil 27 (.sil 28 (.sil 29 (.sil 30 (.eff 31 (.sil 32 (.sil 33 .stop))))))))))))))))))))))))) (.eff 12 (.eff 8 (.eff 10 (.sil 11 (.eff 14 (.sil 15 (.sil 16 (.sil 17 (.sil 18 (.sil 19 (.sil 20 (.sil 21 (.sil 22 (.sil 23 (.sil 24 (.sil 25 (.sil 26 (.sil 27 (.sil 28 (.sil 29 (.sil 30 (.eff 31 (.sil 32 (.sil 33 .stop)))))))))))))))))))))))))))))))))))),
  (13, 11, (.sil 0 (.sil 1 (.sil 2 (.eff 3 (.eff 4 (.eff 5 (.sil 6 (.eff 7 .stop))))))))),
  (14, 6, (.sil 0 (.sil 1 (.sil 2 (.sil 3 (.sil 4 (.sil 5 (.sil 6 (.sil 7 (.sil 8 (.sil 9 (.sil 10 (.sil 11 (.sil 12 (.sil 13 (.sil 14 (.sil 15 (.sil 16 (.sil 17 (.sil 18 (.sil 19 .stop))))))))))))))))))))),
  (14, 7, (.sil 0 (.sil 1 (.sil 2 (.sil 3 (.sil 7 (.sil 8 (.eff 4 (.eff 5 (.eff 6 (.sil 9 (.sil 10 .stop)))))))))))),
  (14, 8, (.sil 0 (.sil 1 (.sil 2 (.sil 3 (.sil 4 (.sil 5 (.sil 6 (.sil 7 (.sil 8 (.sil 9 (.sil 10 (.sil 11 (.sil 12 (.sil 13 (.sil 14 .stop)))))))))))))))),
  (14, 9, (.sil 0 (.sil 1 (.sil 2 (.sil 3 (.sil 7 (.sil 8 (.eff 4 (.eff 5 (.eff 6 (.sil 9 (.sil 10 .stop)))))))))))),
  (14, 3, (.sil 0 (.sil 1 (.sil 2 (.sil 3 (.sil 4 (.sil 5 (.sil 6 .stop)))))))),
  (14, 5, (.sil 0 (.sil 1 (.sil 5 (.sil 6 (.sil 7 (.sil 8 (.eff 2 (.eff 3 (.eff 4 (.sil 9 (.sil 10 (.sil 11 .stop))))))))))))),
  (15, 6, (.sil 0 (.sil 1 (.sil 2 (.sil 3 (.sil 4 (.sil 5 (.sil 6 (.sil 7 (.eff 8 (.sil 9 .stop))))))))))),
  (22, 8, (.sil 0 (.sil 1 (.sil 2 (.sil 3 (.sil 4 (.sil 5 (.sil 6 (.sil 7 (.sil 8 (.sil 9 (.sil 10 (.sil 11 (.sil 12 (.sil 13 (.sil 14 (.sil 15 (.sil 16 (.sil 17 (.sil 18 (.sil 19 (.sil 20 (.sil 21 (.sil 22 (.sil 23 .stop))))))))))))))))))))))))),
  (23, 6, (.sil 0 (.sil 1 (.sil 2 (.sil 3 (.sil 4 (.sil 5 (.sil 6 (.sil 7 (.sil 8 .stop)))))))))),
  (24, 8, (.sil 0 (.sil 1 (.sil 2 (.sil 3 (.sil 4 (.sil 5 (.sil 6 (.sil 7 (.sil 8 (.sil 9 (.sil 10 (.sil 11 (.sil 12 (.sil 13 (.sil 14 (.sil 15 (.eff 16 .stop)))))))))))))))))),
  (26, 9, (.sil 0 (.sil 1 (.sil 2 (.sil 3 (.sil 4 (.eff 5 (.sil 6 (.eff 7 .stop))))))))),
  (26, 10, (.sil 0 (.sil 1 (.eff 2 (.eff 3 .stop))))),
  (28, 2, (.sil 0 (.sil 1 (.sil 2 (.sil 6 (.eff 3 (.eff 4 (.sil 5 .stop)))))))),
  (28, 8, (.sil 0 (.sil 1 (.sil 3 (.sil 4 (.eff 2 (.sil 6 (.eff 5 (.eff 7 (.sil 8 (.eff 9 .stop))))))))))),
  (30, 9, (.sil 0 (.sil 1 (.sil 2 (.sil 3 (.sil 4 (.sil 5 (.eff 6 (.sil 7 (.sil 8 (.eff 9 .stop))))))))))),
  (31, 4, (.sil 0 (.sil 1 (.eff 2 (.eff 3 (.sil 4 .stop)))))),
  (31, 10, (.sil 0 (.sil 1 (.sil 2 (.sil 3 (.sil 4 (.sil 5 (.sil 6 (.sil 7 (.sil 8 (.sil 9 (.sil 10 (.sil 11 (.sil 12 .stop)))))))))))))),
  (31, 11, (.sil 0 (.sil 1 (.sil 2 (.sil 3 (.sil 4 (.sil 5 (.sil 6 (.sil 7 (.sil 8 (.sil 9 (.sil 10 (.eff 11 .stop))))))))))))),
  (34, 2, (.sil 0 (.sil 1 (.sil 2 (.sil 3 (.sil 4 (.sil 5 (.sil 6 (.sil 7 (.sil 9 (.eff 8 (.eff 10 (.sil 11 (.sil 12 .stop)))))))))))))),
  (39, 4, (.sil 0 (.sil 1 (.sil 2 (.sil 3 (.sil 4 (.eff 5 (.sil 6 (.sil 7 (.sil 10 (.sil 11 (.sil 12 (.sil 13 (.sil 14 (.sil 15 (.sil 16 (.eff 8 (.sil 9 (.sil 17 (.sil 18 .stop)))))))))))))))))))),
  (39, 6, (.sil 0 (.sil 1 (.sil 2 (.sil 3 (.sil 4 (.eff 5 (.sil 6 (.sil 7 .stop))))))))),
  (40, 18, (.sil 0 (.sil 3 (.sil 4 (.sil 5 (.sil 6 (.eff 1 (.sil 2 (.sil 7 .stop))))))))),
  (41, 18, (.sil 0 (.sil 1 (.sil 2 (.sil 4 (.sil 5 (.eff 3 (.eff 6 (.sil 7 .stop))))))))),
  (42, 3, (.sil 0 (.sil 1 (.sil 2 (.sil 4 (.sil 5 (.sil 6 (.sil 8 (.sil 9 (.sil 10 (.sil 12 (.sil 13 (.sil 14 (.eff 3 (.eff 7 (.eff 11 (.eff 15 (.sil 16 .stop)))))))))))))))))),
  (42, 4, (.sil 0 (.sil 1 (.sil 2 (.sil 5 (.sil 6 (.sil 7 (.eff 3 (.eff 4 (.eff 8 (.sil 9 .stop))))))))))),
  (42, 8, (.sil 0 (.sil 1 (.sil 2 (.sil 3 (.sil 4 (.sil 5 (.sil 6 (.sil 8 (.sil 9 (.sil 10 (.sil 11 (.sil 12 (.sil 13 (.eff 7 (.eff 14 (.sil 15 .stop))))))))))))))))),
  (42, 9, (.sil 0 (.sil 1 (.sil 2 (.sil 4 (.sil 5 (.eff 3 (.eff 6 (.sil 7 .stop))))))))),
  (43, 6, (.sil 0 (.sil 1 (.sil 2 (.sil 3 (.sil 4 (.sil 5 (.sil 6 (.sil 7 (.sil 8 (.sil 9 (.sil 10 .stop)))))))))))),
  (44, 1, (.sil 0 (.sil 1 (.sil 2 (.sil 3 (.sil 4 (.sil 5 (.sil 6 (.sil 7 (.sil 8 (.sil 9 (.sil 10 (.sil 11 (.sil 12 (.sil 13 .stop))))))))))))))),
  (44, 4, (.sil 0 (.sil 1 (.sil 2 (.sil 3 (.sil 4 (.sil 5 (.sil 6 (.sil 7 (.sil 8 (.sil 9 (.sil 10 (.sil 11 (.sil 12 (.sil 13 (.sil 14 .stop)))))))))))))))),
  (47, 1, (.sil 0 (.sil 1 (.sil 3 (.sil 4 (.eff 2 (.sil 6 (.eff 5 (.eff 7 (.sil 8 (.eff 9 .stop))))))))))),
  (48, 6, (.sil 0 (.sil 1 (.sil 2 (.sil 3 (.sil 4 (.sil 5 (.sil 6 (.sil 7 (.sil 8 .stop)))))))))),
  (50, 7, (.sil 0 (.sil 1 (.sil 2 (.eff 3 (.sil 4 (.sil 5 .stop))))))),
  (52, 9, (.sil 0 (.sil 1 (.sil 2 (.sil 3 (.sil 4 (.eff 5 (.sil 6 (.sil 7 .stop))))))))),
  (53, 4, (.sil 0 (.sil 1 (.sil 2 (.sil 3 (.sil 4 (.sil 5 (.sil 6 (.sil 7 (.sil 8 (.sil 9 (.sil 10 (.sil 11 (.sil 12 (.sil 13 (.sil 14 (.sil 15 (.sil 16 (.sil 17 (.sil 18 (.sil 19 (.eff 20 (.sil 21 (.sil 22 (.sil 23 (.sil 24 (.sil 25 (.sil 26 (.sil 27 (.sil 28 (.sil 29 (.sil 30 (.sil 31 (.sil 32 (.sil 33 (.sil 34 (.sil 35 (.sil 36 (.sil 37 (.sil 38 (.sil 39 (.sil 40 .stop)))))))))))))))))))))))))))))))))))))))))),
  (55, 6, (.sil 0 (.sil 1 (.sil 2 (.sil 3 (.sil 4 (.sil 5 (.sil 6 (.sil 7 (.sil 8 .stop)))))))))),
  (56, 6, (.sil 0 (.sil 1 (.sil 2 (.sil 3 (.sil 4 (.sil 5 (.sil 6 (.sil 7 (.sil 8 .stop)))))))))),
  (58, 11, (.sil 0 (.sil 1 (.sil 2 (.sil 3 (.sil 4 (.sil 5 (.sil 6 (.sil 7 (.sil 8 (.sil 9 (.sil 10 (.alt (.eff 11 (.sil 12 (.sil 13 (.sil 14 (.eff 15 (.eff 16 (.sil 17 .stop))))))) (.eff 15 (.eff 11 (.sil 12 (.sil 13 (.sil 14 (.eff 16 (.sil 17 .stop)))))))))))))))))))),
  (58, 26, (.sil 0 (.sil 1 (.sil 2 (.sil 3 (.sil 4 (.sil 5 (.sil 6 (.sil 7 (.alt (.eff 8 (.sil 9 (.sil 10 (.sil 11 (.eff 12 (.eff 13 (.sil 14 .stop))))))) (.eff 12 (.eff 8 (.sil 9 (.sil 10 (.sil 11 (.eff 13 (.sil 14 .stop))))))))))))))))),
  (59, 1, (.sil 0 (.sil 1 (.sil 2 (.sil 3 (.sil 4 (.sil 5 (.sil 6 (.sil 7 (.sil 8 (.alt (.eff 9 (.sil 10 (.sil 11 (.sil 12 (.eff 13 (.eff 14 (.sil 15 .stop))))))) (.eff 13 (.eff 9 (.sil 10 (.sil 11 (.sil 12 (.eff 14 (.sil 15 .stop)))))))))))))))))),
  (59, 4, (.sil 0 (.sil 1 (.sil 2 (.sil 3 (.sil 4 (.sil 5 (.sil 6 (.alt (.eff 7 (.sil 8 (.sil 9 (.sil 10 (.eff 11 (.eff 12 (.sil 13 .stop))))))) (.eff 11 (.eff 7 (.sil 8 (.sil 9 (.sil 10 (.eff 12 (.sil 13 .stop)))))))))))))))),
  (60, 8, (.sil 0 (.sil 1 (.sil 2 (.sil 3 (.sil 4 (.sil 5 (.sil 6 (.eff 7 (.eff 8 (.sil 9 (.eff 10 .stop)))))))))))),
  (60, 17, (.sil 0 (.sil 1 (.sil 2 (.sil 3 (.sil 4 (.eff 5 (.eff 6 (.sil 7 (.sil 8 (.sil 9 (.sil 10 (.sil 11 (.eff 12 (.sil 13 (.sil 14 (.sil 15 (.sil 16 (.sil 17 (.sil 18 (.sil 19 (.sil 20 (.sil 21 (.sil 22 (.eff 23 (.sil 24 (.sil 25 (.sil 26 .stop)))))))))))))))))))))))))))),
  (60, 20, (.sil 0 (.sil 1 (.sil 2 (.sil 5 (.sil 6 (.eff 3 (.eff 4 (.sil 7 (.eff 8 (.eff 9 .stop))))))))))),
  (63, 3, (.sil 0 (.sil 1 (.sil 2 (.sil 3 (.sil 5 (.sil 6 (.eff 4 (.eff 7 (.sil 8 (.sil 9 .stop))))))))))),
  (70, 1, (.sil 0 (.sil 1 (.sil 2 (.sil 5 (.sil 8 (.eff 3 (.eff 4 (.eff 6 (.sil 7 .stop)))))))))),
  (71, 11, (.sil 0 (.sil 1 (.sil 2 (.sil 3 (.sil 4 (.sil 5 (.sil 6 (.sil 7 (.sil 9 (.sil 10 (.eff 8 (.eff 11 (.sil 12 (.sil 13 (.eff 14 (.sil 15 (.sil 16 (.eff 17 .stop))))))))))))))))))),
  (72, 4, (.sil 0 (.sil 1 (.sil 2 (.sil 5 (.sil 6 (.eff 3 (.sil 4 (.sil 7 (.sil 8 .stop)))))))))),
  (76, 7, (.sil 0 (.sil 2 (.eff 1 (.eff 3 (.sil 4 (.sil 5 (.sil 6 (.sil 7 (.sil 8 (.sil 10 (.sil 11 (.eff 9 (.sil 12 (.sil 13 .stop))))))))))))))),
  (77, 2, (.sil 0 (.sil 1 (.sil 2 (.sil 3 (.sil 4 (.eff 5 (.eff 6 (.eff 7 (.sil 8 .stop)))))))))),
  (77, 4, (.sil 0 (.sil 1 (.sil 3 (.eff 2 (.eff 4 (.eff 5 (.sil 6 .stop)))))))),
  (84, 8, (.sil 0 (.sil 1 (.sil 2 (.sil 4 (.eff 3 (.eff 5 (.sil 6 (.eff 7 (.eff 8 (.sil 9 (.eff 10 .stop)))))))))))),
  (88, 7, (.sil 0 (.sil 1 (.sil 2 (.sil 3 (.sil 4 (.sil 5 (.sil 6 (.sil 7 (.sil 8 (.sil 9 (.sil 10 (.sil 11 (.sil 12 (.sil 13 (.sil 14 (.sil 15 (.sil 16 (.sil 17 (.sil 18 (.sil 19 (.sil 20 (.sil 21 (.sil 22 (.sil 23 (.sil 24 (.sil 25 (.sil 26 (.sil 27 (.sil 28 (.sil 29 (.sil 30 (.sil 31 (.sil 32 (.sil 33 .stop))))))))))))))))))))))))))))))))))),
  (95, 1, (.sil 0 (.sil 1 (.sil 2 (.sil 3 (.sil 4 (.sil 5 (.sil 6 (.sil 7 (.sil 8 (.sil 9 (.sil 10 .stop)))))))))))),
  (96, 1, (.sil 0 (.sil 1 (.sil 2 (.sil 3 (.sil 4 (.eff 5 (.eff 6 (.sil 7 .stop))))))))),
  (96, 8, (.sil 0 (.sil 1 (.sil 2 (.sil 3 (.sil 4 (.sil 5 (.sil 6 (.sil 7 (.sil 8 (.sil 9 (.sil 10 (.sil 11 .stop))))))))))))),
  (96, 10, (.sil 0 (.sil 1 (.sil 2 (.sil 3 (.sil 4 (.sil 5 (.sil 6 (.sil 7 .stop))))))))),
  (107, 3, (.sil 0 (.sil 1 (.eff 2 (.eff 3 (.sil 4 (.eff 5 .stop))))))),
  (112, 9, (.sil 0 (.sil 1 (.sil 2 (.sil 3 (.sil 4 (.sil 5 (.sil 6 (.sil 7 (.sil 8 (.sil 9 (.sil 10 (.sil 11 (.sil 12 (.sil 13 (.sil 14 (.sil 15 (.sil 16 (.sil 17 (.sil 18 (.sil 19 (.sil 20 (.sil 21 (.sil 22 (.sil 23 (.sil 24 (.sil 25 (.sil 26 (.sil 27 (.sil 28 (.sil 29 (.sil 30 (.sil 31 (.sil 32 (.sil 33 (.sil 34 .stop)))))))))))))))))))))))))))))))))))),
  (113, 9, (.sil 0 (.sil 2 (.alt (.eff 1 (.eff 3 (.sil 4 (.eff 5 (.sil 6 (.eff 7 .stop)))))) (.eff 3 (.sil 4 (.alt (.eff 1 (.eff 5 (.sil 6 (.eff 7 .stop)))) (.eff 5 (.eff 1 (.sil 6 (.eff 7 .stop))))))))))),
  (116, 3, (.sil 0 (.sil 1 (.sil 3 (.sil 4 (.sil 6 (.sil 7 (.sil 8 (.eff 2 (.eff 5 (.eff 9 (.sil 10 .stop)))))))))))),
  (116, 8, (.sil 0 (.sil 1 (.sil 2 (.sil 4 (.sil 5 (.sil 7 (.sil 8 (.sil 10 (.sil 11 (.sil 12 (.eff 3 (.eff 6 (.eff 9 (.eff 13 (.sil 14 .stop)))))))))))))))),
  (116, 13, (.sil 0 (.sil 1 (.sil 2 (.sil 4 (.sil 5 (.sil 6 (.sil 8 (.sil 9 (.sil 10 (.sil 12 (.sil 13 (.sil 14 (.eff 3 (.eff 7 (.eff 11 (.eff 15 (.sil 16 .stop)))))))))))))))))),
  (117, 3, (.sil 1 (.sil 3 (.alt (.eff 0 (.alt (.eff 2 (.eff 4 (.eff 5 (.sil 6 (.sil 7 .stop))))) (.eff 4 (.eff 2 (.eff 5 (.sil 6 (.sil 7 .stop))))))) (.eff 4 (.eff 0 (.eff 2 (.eff 5 (.sil 6 (.sil 7 .stop)))))))))),
  (118, 3, (.sil 1 (.sil 2 (.sil 3 (.sil 5 (.sil 6 (.sil 7 (.sil 8 (.sil 10 (.sil 11 (.sil 12 (.sil 13 (.eff 0 (.eff 4 (.eff 9 (.sil 14 (.eff 15 (.sil 16 .stop)))))))))))))))))),
  (119, 23, (.sil 0 (.sil 1 (.sil 2 (.eff 3 (.eff 4 (.eff 5 (.sil 6 (.eff 7 .stop))))))))),
  (119, 31, (.sil 0 (.sil 1 (.sil 2 (.sil 3 (.sil 6 (.sil 7 (.sil 8 (.sil 9 (.sil 10 (.sil 11 (.eff 4 (.eff 5 (.sil 12 (.eff 13 (.sil 14 (.sil 15 (.eff 16 .stop)))))))))))))))))),
  (120, 17, (.sil 0 (.sil 1 (.sil 2 (.sil 3 (.sil 4 (.sil 5 (.eff 6 (.eff 7 (.sil 8 .stop)))))))))),
  (120, 18, (.sil 0 (.sil 1 (.eff 2 (.sil 3 (.sil 4 (.sil 5 (.sil 6 (.sil 7 (.sil 9 (.sil 10 (.eff 8 (.sil 11 (.sil 12 .stop)))))))))))))),
  (125, 1, (.sil 0 (.sil 1 (.sil 2 (.sil 3 (.sil 4 (.sil 5 (.sil 6 (.sil 7 (.sil 8 (.sil 9 (.sil 10 (.sil 11 (.sil 12 (.sil 13 (.alt (.eff 14 (.eff 15 (.eff 16 (.eff 17 .stop)))) (.eff 15 (.eff 14 (.eff 16 (.eff 17 .stop)))))))))))))))))))),
  (125, 5, (.sil 0 (.sil 1 (.sil 2 (.sil 3 (.sil 4 (.sil 5 (.sil 6 .stop)))))))),
  (125, 7, (.sil 0 (.sil 1 (.sil 2 (.sil 3 (.sil 4 (.sil 5 (.sil 6 .stop)))))))),
  (128, 1, (.sil 0 (.sil 1 (.sil 2 (.sil 3 (.sil 5 (.sil 6 (.sil 7 (.sil 8 (.sil 10 (.sil 11 (.sil 12 (.sil 13 (.eff 4 (.eff 9 (.eff 14 (.eff 15 (.eff 16 (.sil 17 .stop))))))))))))))))))),
  (141, 1, (.sil 0 (.sil 1 (.sil 2 (.sil 5 (.eff 3 (.eff 4 (.eff 6 (.sil 7 (.sil 8 .stop)))))))))),
  (142, 1, (.sil 0 (.sil 1 (.sil 2 (.sil 4 (.sil 5 (.sil 6 (.sil 7 (.sil 8 (.sil 9 (.eff 3 (.sil 10 (.eff 11 (.sil 12 (.eff 13 (.sil 14 (.eff 15 .stop))))))))))))))))),
  (142, 4, (.sil 0 (.sil 1 (.sil 2 (.sil 3 (.sil 4 (.sil 5 (.sil 6 (.sil 7 (.sil 8 (.sil 9 (.sil 10 (.sil 11 (.sil 12 (.sil 13 (.eff 14 (.sil 15 (.sil 16 (.eff 17 .stop))))))))))))))))))),
  (151, 3, (.sil 0 (.sil 1 (.sil 2 (.sil 3 (.sil 4 (.sil 5 (.sil 6 (.sil 7 (.sil 8 (.eff 9 (.sil 10 (.sil 11 (.sil 12 (.sil 13 (.sil 14 (.sil 15 (.sil 16 .stop)))))))))))))))))),
  (152, 3, (.sil 0 (.sil 1 (.sil 2 (.sil 3 (.sil 4 (.sil 5 (.sil 6 (.sil 7 (.sil 8 (.eff 9 (.sil 10 (.sil 11 (.sil 12 (.sil 13 (.sil 14 (.sil 15 (.sil 16 .stop)))))))))))))))))),
  (166, 1, (.sil 0 (.sil 1 (.sil 2 (.sil 3 (.sil 4 (.sil 6 (.sil 7 (.sil 8 (.eff 5 (.sil 9 (.sil 10 (.sil 11 (.sil 12 (.eff 13 (.sil 14 (.sil 15 .stop))))))))))))))))),
  (170, 21, (.sil 0 (.sil 1 (.sil 2 (.sil 3 (.sil 4 (.sil 5 .stop))))))),
  (171, 3, (.sil 0 (.sil 1 (.eff 2 (.eff 3 (.sil 4 (.eff 5 .stop))))))),
  (172, 1, (.sil 0 (.sil 1 (.sil 2 (.sil 3 (.sil 4 (.sil 5 (.sil 6 (.sil 7 (.sil 8 (.sil 9 (.sil 10 (.sil 11 (.sil 12 (.sil 13 (.sil 14 (.sil 15 (.sil 16 (.sil 17 (.sil 18 (.sil 19 (.sil 20 (.sil 21 (.sil 22 (.sil 23 (.sil 24 (.sil 25 (.sil 26 (.sil 27 (.sil 28 (.sil 29 (.sil 30 (.sil 31 (.sil 32 (.sil 33 (.sil 34 (.sil 35 (.sil 36 (.sil 37 (.sil 38 (.sil 39 (.sil 40 (.sil 41 (.sil 42 (.sil 43 (.sil 44 .stop)))))))))))))))))))))))))))))))))))))))))))))),
  (173, 16, (.sil 0 (.sil 1 (.sil 2 (.sil 3 (.sil 4 (.sil 5 (.sil 6 (.sil 7 (.sil 8 (.sil 9 (.sil 10 (.sil 11 (.sil 12 (.sil 13 (.sil 14 (.sil 15 (.sil 16 .stop)))))))))))))))))),
  (173, 17, (.sil 0 (.sil 1 (.sil 2 (.sil 3 (.sil 4 (.sil 5 (.sil 6 (.sil 7 (.sil 8 (.sil 9 (.sil 10 (.sil 11 (.sil 12 (.sil 13 (.sil 14 (.sil 15 (.sil 16 (.sil 17 (.sil 18 (.sil 19 (.sil 20 (.sil 21 (.sil 22 (.sil 23 .stop))))))))))))))))))))))))),
  (174, 4, (.sil 0 (.sil 1 (.sil 3 (.sil 4 (.eff 2 (.sil 5 .stop))))))),
  (174, 7, (.sil 0 (.sil 1 (.sil 2 (.sil 3 (.sil 4 (.sil 5 (.sil 7 (.eff 6 (.eff 8 (.sil 9 (.eff 10 (.sil 11 (.eff 12 .stop)))))))))))))),
  (175, 9, (.sil 0 (.sil 1 (.eff 2 (.sil 3 (.sil 4 (.sil 5 (.sil 6 (.sil 7 (.sil 9 (.sil 10 (.eff 8 (.sil 11 (.sil 12 .stop)))))))))))))),
  (175, 11, (.sil 0 (.sil 1 (.sil 3 (.eff 2 (.eff 4 (.eff 5 (.sil 6 .stop)))))))),
  (176, 8, (.sil 0 (.sil 1 (.sil 3 (.eff 2 (.eff 4 (.eff 5 (.sil 6 .stop)))))))),
  (177, 2, (.sil 1 (.sil 2 (.sil 4 (.alt (.eff 0 (.alt (.eff 3 (.eff 5 (.eff 6 (.sil 7 (.eff 8 .stop))))) (.eff 5 (.eff 3 (.eff 6 (.sil 7 (.eff 8 .stop))))))) (.eff 5 (.eff 0 (.eff 3 (.eff 6 (.sil 7 (.eff 8 .stop))))))))))),
  (178, 6, (.sil 0 (.sil 1 (.sil 2 (.sil 3 (.sil 4 (.sil 5 (.eff 6 (.sil 7 (.sil 8 (.sil 9 (.sil 10 (.sil 11 (.sil 12 (.sil 13 (.sil 14 (.sil 15 (.sil 16 (.sil 17 (.sil 18 (.sil 19 (.sil 20 (.sil 21 (.sil 22 (.sil 23 (.sil 24 (.sil 25 (.sil 26 (.sil 27 (.sil 28 (.sil 29 (.sil 30 (.sil 31 (.sil 32 (.sil 33 (.sil 34 (.sil 35 (.sil 36 .stop)))))))))))))))))))))))))))))))))))))),
  (178, 11, (.sil 0 (.sil 1 (.sil 2 (.sil 3 (.sil 4 (.eff 5 (.sil 6 (.sil 7 (.sil 8 (.sil 9 (.sil 10 (.sil 11 (.sil 12 (.sil 13 (.sil 14 (.sil 15 (.sil 16 (.sil 17 (.sil 18 (.sil 19 (.sil 20 (.sil 21 (.sil 22 (.sil 23 (.eff 24 (.sil 25 (.sil 26 (.sil 27 .stop))))))))))))))))))))))))))))),
  (182, 5, (.sil 0 (.sil 1 (.sil 2 (.sil 3 (.sil 4 (.sil 5 (.sil 6 (.sil 7 (.sil 8 (.sil 9 (.sil 10 (.sil 11 (.eff 12 (.eff 13 (.sil 14 .stop)))))))))))))))),
  (184, 11, (.sil 0 (.sil 1 (.sil 2 (.sil 3 (.sil 4 (.eff 5 (.sil 6 (.sil 7 (.sil 8 (.sil 9 (.sil 10 (.sil 11 (.eff 12 (.sil 13 (.sil 14 .stop)))))))))))))))),
  (184, 13, (.sil 0 (.sil 1 (.sil 2 (.sil 3 (.sil 4 (.eff 5 (.sil 6 (.sil 7 (.sil 8 (.sil 9 (.sil 10 (.sil 11 (.eff 12 (.sil 13 (.sil 14 .stop)))))))))))))))),
  (184, 15, (.sil 0 (.sil 1 (.sil 2 (.sil 3 (.sil 4 (.eff 5 (.sil 6 (.sil 7 .stop))))))))),
  (185, 5, (.sil 0 (.sil 1 (.sil 2 (.sil 3 (.sil 4 (.sil 5 (.sil 6 (.sil 7 (.sil 8 (.sil 9 (.sil 10 (.sil 11 (.sil 12 (.sil 13 (.sil 14 (.eff 15 (.sil 16 (.sil 17 .stop))))))))))))))))))),
  (186, 9, (.sil 0 (.sil 1 (.sil 2 (.sil 3 (.sil 4 (.sil 5 (.sil 6 (.sil 7 (.sil 8 (.sil 9 (.sil 10 (.sil 11 .stop))))))))))))),
  (186, 11, (.sil 0 (.sil 1 (.sil 2 (.sil 3 (.sil 4 (.sil 5 (.sil 6 (.sil 7 .stop))))))))),
  (187, 6, (.sil 0 (.sil 1 (.sil 2 (.sil 3 (.sil 4 (.sil 5 (.eff 6 (.sil 7 (.sil 8 (.sil 9 (.sil 10 (.sil 11 (.sil 12 (.sil 13 (.eff 14 (.sil 15 (.sil 16 .stop)))))))))))))))))),
  (190, 6, (.sil 0 (.sil 1 (.sil 2 (.sil 3 (.sil 4 (.sil 5 (.sil 6 (.sil 7 (.sil 8 .stop)))))))))),
  (192, 5, (.sil 0 (.sil 1 (.sil 2 (.sil 3 (.sil 4 (.eff 5 (.sil 6 .stop)))))))),
  (193, 2, (.sil 0 (.sil 1 (.sil 2 (.sil 3 (.sil 4 (.eff 5 (.eff 6 (.sil 7 .stop))))))))),
  (214, 1, (.sil 0 (.sil 1 (.sil 3 (.sil 4 (.sil 6 (.sil 7 (.sil 8 (.sil 9 (.sil 10 (.eff 2 (.eff 5 (.eff 11 (.eff 12 (.eff 13 (.sil 14 .stop)))))))))))))))),
  (217, 11, (.sil 0 (.sil 1 (.sil 2 (.sil 3 (.sil 4 (.sil 5 (.sil 6 (.sil 7 (.sil 8 (.sil 9 (.sil 10 (.sil 11 (.sil 12 (.sil 13 (.sil 14 (.sil 15 (.sil 16 (.sil 17 (.sil 18 (.sil 19 (.sil 20 (.sil 21 (.sil 22 (.sil 23 .stop))))))))))))))))))))))))),
  (217, 15, (.sil 0 (.sil 1 (.sil 2 (.sil 3 (.sil 4 (.sil 5 (.sil 6 (.sil 7 (.sil 8 (.sil 9 (.sil 10 (.sil 11 (.sil 12 (.eff 13 .stop))))))))))))))),
  (219, 2, (.sil 0 (.sil 1 (.sil 2 (.sil 3 (.sil 4 (.sil 5 (.sil 6 (.eff 7 (.sil 8 (.eff 9 .stop))))))))))),
  (219, 4, (.sil 0 (.sil 1 (.sil 2 (.sil 3 (.sil 4 (.sil 5 (.sil 6 (.sil 8 (.sil 9 (.sil 10 (.eff 7 (.sil 11 (.eff 12 (.sil 13 (.eff 14 .stop)))))))))))))))),
  (223, 7, (.sil 0 (.sil 1 (.sil 2 (.sil 3 (.sil 4 (.sil 5 (.sil 6 (.sil 7 (.sil 9 (.sil 10 (.eff 8 (.eff 11 (.sil 12 (.sil 13 .stop))))))))))))))),
  (223, 14, (.sil 0 (.sil 1 (.sil 2 (.sil 3 (.sil 4 (.sil 5 (.sil 6 (.sil 7 (.sil 8 (.sil 9 .stop))))))))))),
  (227, 11, (.sil 0 (.sil 1 (.sil 2 (.sil 3 (.sil 4 (.sil 5 (.sil 6 (.sil 7 (.eff 8 .stop)))))))))),
  (227, 15, (.sil 0 (.sil 1 (.sil 2 (.sil 3 (.sil 4 (.sil 5 (.sil 6 (.sil 7 (.eff 8 .stop)))))))))),
  (229, 11, (.sil 0 (.sil 1 (.sil 2 (.sil 3 (.sil 4 (.sil 5 (.sil 6 (.sil 7 (.eff 8 .stop)))))))))),
  (229, 15, (.sil 0 (.sil 1 (.sil 2 (.sil 3 (.sil 4 (.sil 5 (.sil 6 (.sil 7 (.eff 8 .stop)))))))))),
  (231, 4, (.sil 0 (.sil 1 (.sil 2 (.sil 4 (.sil 5 (.eff 3 (.eff 6 (.sil 7 .stop))))))))),
  (234, 15, (.sil 0 (.sil 1 (.eff 2 (.eff 3 (.sil 4 .stop)))))),
  (234, 16, (.sil 0 (.sil 1 (.eff 2 (.eff 3 (.sil 4 .stop)))))),
  (252, 2, (.sil 0 (.sil 1 (.eff 2 (.eff 3 (.sil 4 .stop)))))),
  (253, 2, (.sil 0 (.sil 1 (.eff 2 (.eff 3 (.sil 4 .stop)))))),
  (253, 3, (.sil 0 (.sil 1 (.sil 2 (.sil 3 (.sil 4 (.sil 5 (.sil 6 (.sil 7 (.sil 8 (.sil 9 (.sil 10 (.sil 11 (.eff 12 (.sil 13 (.sil 14 (.eff 15 .stop))))))))))))))))),
  (255, 3, (.sil 0 (.sil 1 (.sil 2 (.sil 3 (.sil 4 (.sil 5 (.sil 6 (.sil 7 (.sil 8 (.sil 9 (.sil 10 (.sil 11 (.sil 12 (.sil 13 (.sil 14 (.sil 15 (.sil 16 (.sil 17 (.sil 18 (.sil 19 (.sil 20 (.sil 21 (.sil 22 (.sil 23 (.sil 24 (.sil 25 (.sil 26 (.sil 27 (.sil 28 (.sil 29 (.sil 30 (.sil 31 (.sil 32 (.sil 33 (.sil 34 (.sil 35 (.sil 36 (.sil 37 (.sil 38 .stop)))))))))))))))))))))))))))))))))))))))),
  (255, 7, (.sil 0 (.sil 1 (.sil 2 (.sil 3 (.sil 4 (.sil 5 (.sil 6 (.sil 7 (.sil 8 (.sil 9 (.sil 10 (.sil 11 (.sil 12 .stop)))))))))))))),
  (263, 3, (.sil 0 (.sil 1 (.sil 2 (.sil 3 (.sil 4 (.sil 5 (.sil 6 (.sil 7 (.sil 8 (.sil 9 (.sil 10 (.sil 11 (.sil 12 (.eff 13 (.sil 14 (.eff 15 .stop))))))))))))))))),
  (264, 3, (.sil 0 (.sil 1 (.sil 2 (.sil 3 (.sil 4 (.sil 5 (.sil 6 (.sil 7 (.sil 8 (.sil 9 (.sil 10 (.sil 11 (.sil 12 (.eff 13 (.sil 14 (.eff 15 .stop))))))))))))))))),
  (266, 6, (.sil 0 (.sil 1 (.sil 2 (.sil 3 (.sil 4 (.sil 5 (.sil 6 .stop)))))))),
  (266, 7, (.sil 0 (.sil 1 (.sil 2 (.sil 3 (.sil 4 (.sil 5 (.sil 6 (.eff 7 (.sil 8 .stop)))))))))),
  (266, 14, (.sil 0 (.sil 1 (.sil 2 (.sil 3 (.sil 4 (.sil 5 (.sil 6 (.sil 7 (.sil 8 (.sil 9 (.sil 10 .stop)))))))))))),
  (266, 31, (.sil 0 (.sil 1 (.sil 2 (.sil 3 (.sil 4 (.sil 5 (.sil 6 (.sil 7 (.sil 8 (.sil 9 (.sil 10 .stop))))))))))))]
def Tryz.lives : List (Nat × Nat × List (Nat × Nat)) := [
  (3, 12, [(5, 0), (7, 1), (8, 1), (9, 1), (10, 0)]),
  (4, 7, [(2, 1), (3, 1), (4, 0)]),
  (4, 12, [(3, 1), (5, 0)]),
  (5, 11, [(3, 0), (7, 0), (9, 1), (10, 1), (11, 0)]),
  (6, 9, [(5, 0), (7, 1), (8, 1), (9, 0)]),
  (6, 12, [(5, 0), (7, 1), (8, 1), (9, 0), (10, 0)]),
  (6, 21, [(5, 0), (7, 1), (11, 1), (12, 1), (13, 1), (14, 0)]),
  (6, 27, [(5, 0), (7, 1), (11, 1), (12, 1), (13, 1), (14, 0), (15, 0), (16, 0)]),
  (7, 9, [(5, 0), (7, 1), (8, 0)]),
  (7, 12, [(5, 0), (7, 1), (8, 0), (9, 0)]),
  (7, 15, [(5, 0), (7, 1), (8, 0), (9, 0), (10, 0)]),
  (7, 24, [(5, 0), (7, 1), (11, 1), (13, 0)]),
  (8, 7, [(2, 0), (3, 0), (4, 9), (5, 0)]),
  (8, 17, [(2, 0), (3, 0), (4, 9), (6, 0)]),
  (13, 3, [(0, 1000), (1, 0), (5, 7), (6, 0)]),
  (13, 9, [(0, 1000), (1, 0), (5, 7), (6, 0), (7, 129100000), (8, 0)]),
  (14, 1, [(0, 1), (1, 1), (4, 7)]),
  (15, 4, [(0, 1), (1, 1), (5, 0)]),
  (18, 3, [(0, 1), (5, 3), (12, 0), (13, 0)]),
  (18, 7, [(0, 1), (5, 3), (6, 0), (7, 0), (12, 0), (13, 0), (16, 1), (17, 0), (18, 0)]),
  (20, 9, [(1, 0), (2, 0), (8, 0)]),
  (22, 3, [(1, 1), (5, 7), (6, 0)]),
  (22, 6, [(1, 1), (5, 7), (6, 0), (7, 0)]),
  (23, 4, [(0, 1), (1, 1), (5, 0)]),
  (24, 3, [(0, 1), (1, 0), (5, 3), (6, 0)]),
  (24, 6, [(0, 1), (1, 0), (5, 3), (6, 0), (7, 0)]),
  (28, 3, [(1, 0), (2, 0), (3, 0), (11, 1), (12, 0), (13, 0)]),
  (30, 5, [(0, 0), (1, 0), (6, 0), (37, 0), (38, 0)]),
  (40, 8, [(0, 1), (2, 0), (5, 0), (6, 0), (7, 0)]),
  (41, 9, [(0, 1), (3, 0), (6, 3), (37, 1), (38, 0), (39, 0)]),
  (41, 14, [(0, 1), (3, 0), (51, 3), (52, 0), (53, 0)]),
  (42, 6, [(0, 1), (3, 0), (5, 0)]),
  (43, 4, [(2, 0), (3, 0), (5, 0)]),
  (46, 4, [(3, 0), (4, 1), (5, 0)]),
  (48, 4, [(0, 1), (1, 1), (5, 0)]),
  (53, 2, [(0, 1), (3, 0)]),
  (55, 4, [(0, 1), (1, 1), (12, 0), (13, 0)]),
  (56, 4, [(0, 1), (1, 1), (12, 0), (13, 0)]),
  (57, 5, [(0, 0), (3, 0), (8, 0), (10, 0), (11, 0)]),
  (60, 5, [(1, 0), (2, 0), (3, 0), (6, 0), (8, 0), (9, 0)]),
  (60, 11, [(2, 0), (3, 0), (6, 0), (8, 0), (10, 1), (11, 0)]),
  (60, 14, [(2, 0), (3, 0), (6, 0), (8, 0), (10, 1), (11, 0), (12, 0), (13, 0), (14, 0)]),
  (63, 6, [(3, 0), (23, 1), (24, 0), (25, 0)]),
  (70, 2, [(4, 10), (13, 1), (14, 0), (15, 0)]),
  (71, 3, [(1, 0), (2, 0), (3, 10), (11, 10), (12, 0), (13, 0)]),
  (71, 9, [(1, 0), (2, 0), (33, 7), (34, 0), (35, 0)]),
  (75, 2, [(2, 6), (5, 1), (6, 0), (7, 0)]),
  (82, 3, [(0, 0), (3, 4), (4, 0)]),
  (84, 6, [(0, 1000), (2, 162000), (3, 0), (4, 0)]),
  (88, 4, [(1, 0), (3, 0)]),
  (90, 3, [(0, 3), (5, 0)]),
  (92, 2, [(1, 0), (5, 3)]),
  (96, 6, [(0, 1), (3, 0), (5, 6), (6, 0), (7, 0)]),
  (101, 3, [(0, 0), (2, 6), (3, 0)]),
  (105, 3, [(3, 0), (6, 1), (7, 0), (8, 0)]),
  (106, 5, [(0, 0), (5, 6), (6, 0)]),
  (107, 2, [(0, 0), (2, 0), (3, 0)]),
  (109, 3, [(1, 0), (3, 0), (4, 0)]),
  (112, 4, [(0, 0), (1, 1), (5, 0)]),
  (112, 13, [(0, 0), (7, 1), (8, 0)]),
  (113, 5, [(0, 0), (1, 0), (6, 0), (8, 0), (9, 0)]),
  (115, 2, [(0, 1), (1, 0), (2, 0), (7, 0)]),
  (116, 5, [(2, 0), (6, 3), (7, 0)]),
  (116, 10, [(2, 0), (6, 3), (7, 0), (8, 0), (9, 0)]),
  (116, 15, [(2, 0), (6, 3), (7, 0), (8, 0), (11, 0)]),
  (116, 20, [(2, 0), (6, 3), (12, 0)]),
  (119, 7, [(0, 1), (1, 0), (4, 104069000), (6, 1000), (7, 104069000), (8, 0)]),
  (119, 13, [(0, 1), (1, 0), (4, 104069000), (6, 1000), (7, 104069000), (8, 0), (9, 129100000), (10, 0)]),
  (119, 21, [(0, 1), (1, 0), (4, 104069000), (6, 1000), (7, 104069000), (8, 0), (9, 129100000), (12, 0)]),
  (119, 26, [(0, 1), (1, 0), (4, 104069000), (6, 1000), (7, 104069000), (13, 0)]),
  (120, 13, [(3, 0), (4, 0), (6, 0), (7, 0), (8, 0), (10, 0), (11, 0)]),
  (125, 3, [(5, 0), (6, 0), (7, 0)]),
  (126, 2, [(0, 1), (1, 0), (4, 0), (5, 0)]),
  (127, 2, [(0, 1), (1, 0), (7, 0), (8, 0)]),
  (130, 2, [(1, 0), (4, 10), (7, 1), (8, 0), (9, 0)]),
  (133, 4, [(1, 1), (2, 0), (15, 1), (16, 0), (17, 0)]),
  (135, 4, [(1, 1), (2, 0), (15, 1), (16, 0), (17, 0)]),
  (156, 1, [(0, 0), (1, 0), (3, 0), (6, 0)]),
  (156, 18, [(1, 0), (3, 0), (6, 0), (48, 3), (49, 0), (50, 0)]),
  (157, 3, [(0, 1), (5, 0), (6, 0), (7, 0)]),
  (159, 2, [(0, 0), (1, 0), (5, 0)]),
  (162, 2, [(0, 1), (1, 0), (7, 0), (8, 0)]),
  (168, 1, [(0, 0), (1, 0), (2, 0)]),
  (168, 17, [(1, 0), (2, 0), (43, 1), (44, 0), (45, 0)]),
  (170, 3, [(0, 0), (2, 0), (4, 0)]),
  (170, 10, [(0, 0), (2, 0), (4, 0), (5, 0)]),
  (170, 19, [(0, 0), (2, 0), (6, 0), (7, 0)]),
  (171, 2, [(0, 0), (2, 0), (3, 0)]),
  (173, 3, [(0, 0), (1, 1), (2, 0), (7, 3), (8, 0)]),
  (173, 8, [(1, 1), (7, 3), (9, 0)]),
  (173, 11, [(1, 1), (7, 3), (9, 0), (10, 0)]),
  (173, 14, [(1, 1), (7, 3), (9, 0), (10, 0), (11, 0)]),
  (178, 4, [(1, 0), (2, 0), (5, 0)]),
  (178, 9, [(2, 0), (6, 0)]),
  (179, 3, [(0, 1), (3, 0), (4, 0)]),
  (179, 6, [(0, 1), (3, 0), (4, 0), (5, 0)]),
  (182, 3, [(0, 1), (3, 6), (4, 0)]),
  (185, 3, [(2, 0), (3, 0), (4, 0), (7, 0), (8, 0)]),
  (186, 7, [(0, 1), (3, 0), (7, 10), (8, 0), (9, 0)]),
  (187, 4, [(1, 0), (2, 0), (3, 0), (4, 10), (5, 0)]),
  (188, 3, [(3, 0), (6, 1), (7, 0), (8, 0)]),
  (190, 4, [(0, 1), (1, 1), (12, 0), (13, 0)]),
  (194, 3, [(0, 1), (1, 0), (2, 0), (8, 0), (9, 0), (10, 0)]),
  (196, 2, [(0, 1), (1, 0), (7, 0), (8, 0)]),
  (199, 2, [(0, 1), (1, 0), (7, 0), (8, 0)]),
  (204, 3, [(0, 1), (3, 0), (6, 1), (7, 0), (8, 0)]),
  (207, 1, [(0, 0), (1, 0), (4, 0)]),
  (208, 2, [(0, 0), (2, 0), (5, 0), (6, 0)]),
  (209, 4, [(0, 0), (1, 0), (2, 0), (3, 0), (8, 0)]),
  (220, 2, [(0, 1), (1, 0), (4, 0), (6, 0)]),
  (221, 2, [(1, 0), (2, 0), (6, 0)]),
  (223, 4, [(2, 0), (3, 0), (5, 0), (6, 1), (7, 0)]),
  (223, 12, [(2, 0), (3, 0), (5, 0), (6, 1), (7, 0), (8, 0), (9, 0)]),
  (224, 3, [(0, 1), (1, 0), (2, 0), (8, 0), (9, 0), (10, 0)]),
  (230, 1, [(0, 1), (2, 0), (3, 0)]),
  (236, 3, [(0, 1), (3, 0), (9, 1), (10, 0), (11, 0)]),
  (236, 12, [(6, 0), (26, 1), (27, 0), (28, 0)]),
  (244, 1, [(0, 0), (1, 0)]),
  (245, 1, [(0, 0), (1, 0)]),
  (246, 2, [(0, 0), (2, 0), (4, 0)]),
  (247, 1, [(0, 0), (1, 0)]),
  (248, 1, [(0, 0), (1, 0)]),
  (249, 1, [(0, 0), (1, 0)]),
  (250, 1, [(0, 0), (1, 0)]),
  (261, 10, [(0, 0), (4, 0), (5, 0), (6, 0)]),
  (263, 1, [(0, 10), (2, 0), (3, 0)]),
  (264, 1, [(0, 6), (2, 0), (3, 0)]),
  (266, 38, [(175, 0)])]
def Tryz.digs : List (Nat × Nat × List Dig) := [
  (5, 13, [(some 46, [9], []), (some 47, [11], []), (some 48, [46, 47], [0, 1]), (some 49, [48], [2]), (some 50, [7], []), (some 51, [49, 50], [3, 4]), (some 52, [51], [5]), (some 53, [52], [6, 5]), (some 54, [9, 53], [7]), (some 55, [11, 53], [7]), (some 56, [54, 55, 53], [8, 9, 7]), (some 57, [56, 53], [10, 7]), (some 58, [10, 53], [7]), (some 59, [11, 53], [7]), (some 60, [58, 59, 53], [12, 13, 7]), (some 61, [60, 53], [14, 7]), (some 62, [57, 61, 53], [11, 15, 7, 7]), (some 63, [9, 53], [7]), (some 64, [11, 53], [7]), (some 65, [63, 64, 53], [17, 18, 7]), (some 66, [65, 53], [19, 7]), (some 67, [10, 53], [7]), (some 68, [11, 53], [7]), (some 69, [67, 68, 53], [21, 22, 7]), (some 70, [69, 53], [23, 7]), (some 71, [66, 70, 53], [20, 24, 16, 7]), (some 72, [62, 71, 53], [16, 25, 7]), (some 73, [53, 72], [7, 26]), (some 74, [73], [27, 25]), (some 75, [3, 74], [28]), (some 76, [9, 74], [28]), (some 77, [11, 74], [28]), (some 78, [76, 77, 74], [30, 31, 28]), (some 79, [78, 74], [32, 28]), (some 80, [75, 79, 74], [29, 33, 28, 28]), (some 81, [3, 74], [28]), (some 82, [9, 74], [28]), (some 83, [11, 74], [28]), (some 84, [82, 83, 74], [36, 37, 28]), (some 85, [84, 74], [38, 28]), (some 86, [81, 85, 74], [35, 39, 34, 28]), (some 87, [80, 86, 74], [34, 40, 28]), (some 88, [74, 87], [28, 41])]),
  (6, 15, [(some 71, [8], []), (some 72, [9], []), (some 73, [71, 72], [0, 1]), (some 74, [73], [2]), (some 75, [74], [3]), (some 76, [10], []), (some 77, [7], []), (some 78, [9], []), (some 79, [77, 78], [6, 7]), (some 80, [79], [8]), (some 81, [80], [9]), (some 82, [10], []), (some 83, [81, 82], [10, 11]), (some 84, [83], [12]), (some 85, [8], []), (some 86, [9], []), (some 87, [85, 86], [14, 15]), (some 88, [87], [16]), (some 89, [88], [17]), (some 90, [10], []), (some 91, [89, 90], [18, 19]), (some 92, [91], [20]), (some 93, [84, 92], [13, 21]), (some 94, [75, 76], [4, 5, 0, 1, 2, 3, 4, 5, 6, 7, 8, 9, 10, 11, 12, 13, 14, 15, 16, 17, 18, 19, 20, 21, 22]), (none, [94, 93], [23, 22, 0, 1, 2, 3, 4, 5, 6, 7, 8, 9, 10, 11, 12, 13, 14, 15, 16, 17, 18, 19, 20, 21, 22])]),
  (6, 16, [(some 95, [7], []), (some 96, [9], []), (some 97, [95, 96], [0, 1]), (some 98, [97], [2]), (some 99, [98], [3]), (some 100, [10], []), (some 101, [7], []), (some 102, [9], []), (some 103, [101, 102], [6, 7]), (some 104, [103], [8]), (some 105, [104], [9]), (some 106, [10], []), (some 107, [105, 106], [10, 11]), (some 108, [107], [12]), (some 109, [8], []), (some 110, [9], []), (some 111, [109, 110], [14, 15]), (some 112, [111], [16]), (some 113, [112], [17]), (some 114, [10], []), (some 115, [113, 114], [18, 19]), (some 116, [115], [20]), (some 117, [108, 116], [13, 21]), (some 118, [99, 100], [4, 5, 0, 1, 2, 3, 4, 5, 6, 7, 8, 9, 10, 11, 12, 13, 14, 15, 16, 17, 18, 19, 20, 21, 22]), (none, [118, 117], [23, 22, 0, 1, 2, 3, 4, 5, 6, 7, 8, 9, 10, 11, 12, 13, 14, 15, 16, 17, 18, 19, 20, 21, 22])]),
  (7, 26, [(some 126, [11], []), (some 127, [13], []), (some 128, [126, 127], [0, 1]), (some 129, [128], [2]), (some 130, [129], [3]), (some 131, [13], []), (some 132, [131], [5]), (some 133, [130, 132], [4, 6]), (some 134, [133], [7]), (some 135, [11, 134], [8]), (some 136, [13, 134], [8]), (some 137, [135, 136, 134], [9, 10, 8]), (some 138, [137, 134], [11, 8]), (some 139, [138, 134], [12, 8]), (some 140, [7, 134], [8]), (some 141, [140, 134], [14, 8]), (some 142, [141, 134], [15, 8]), (some 143, [13, 134], [8]), (some 144, [142, 143, 134], [16, 17, 8]), (some 145, [144, 134], [18, 8]), (some 146, [145, 134], [19, 8]), (some 147, [7, 134], [8]), (some 148, [147, 134], [21, 8]), (some 149, [148, 134], [22, 8]), (some 150, [13, 134], [8]), (some 151, [149, 150, 134], [23, 24, 8]), (some 152, [151, 134], [25, 8]), (some 153, [152, 134], [26, 8]), (some 154, [146, 153, 134], [20, 27, 8]), (some 155, [7, 134], [8]), (some 156, [155, 134], [29, 8]), (some 157, [156, 134], [30, 8]), (some 158, [13, 134], [8]), (some 159, [157, 158, 134], [31, 32, 8]), (some 160, [159, 134], [33, 8]), (some 161, [160, 134], [34, 8]), (some 162, [154, 161, 134], [28, 35, 8]), (some 163, [139, 162, 134], [13, 36, 8]), (some 164, [134, 163], [8, 37])]),
  (10, 8, [(some 44, [7], []), (some 45, [44], [0]), (some 46, [45], [1]), (some 47, [7], []), (some 48, [47], [3, 1]), (some 49, [48], [4]), (some 50, [46, 49], [2, 5]), (some 51, [50], [6, 4]), (some 52, [51], [7]), (some 53, [3, 51], [7]), (some 54, [52, 53, 51], [8, 9, 7, 7]), (some 55, [54, 51], [10, 7]), (some 56, [51], [7]), (some 57, [3, 51], [7]), (some 58, [56, 57, 51], [12, 13, 10, 7]), (some 59, [58, 51], [14, 7]), (some 60, [55, 59, 51], [11, 15, 7]), (some 61, [51, 60], [7, 16]), (some 62, [61], [17, 14]), (some 63, [9, 62], [18]), (some 64, [12, 62], [18]), (some 65, [63, 64, 62], [19, 20, 18]), (some 66, [62, 65], [18, 21]), (some 67, [66], [22, 18]), (some 68, [10, 67], [23]), (some 69, [13, 67], [23]), (some 70, [68, 69, 67], [24, 25, 23]), (some 71, [67, 70], [23, 26]), (some 72, [71], [27, 23]), (some 73, [8, 72], [28]), (some 74, [11, 72], [28]), (some 75, [73, 74, 72], [29, 30, 28, 28]), (some 76, [72, 75], [28, 31]), (some 6, [76], [32, 31, 0, 1, 2, 3, 4, 5, 6, 7, 8, 9, 10, 11, 12, 13, 14, 15, 16, 17, 18, 19, 20, 21, 22, 23, 24, 25, 26, 27, 28, 29, 30, 31, 32])]),
  (22, 8, [(some 23, [5], []), (some 24, [7], []), (some 25, [23, 24], [0, 1]), (some 26, [25], [2]), (some 27, [26], [3]), (some 28, [1], []), (some 29, [6], []), (some 30, [28, 29], [5, 6]), (some 31, [30], [7]), (some 32, [31], [8]), (some 33, [27, 32], [4, 9]), (some 34, [33], [10]), (some 35, [1, 34], [11]), (some 36, [6, 34], [11]), (some 37, [35, 36, 34], [12, 13, 11]), (some 38, [37, 34], [14, 11]), (some 39, [38, 34], [15, 11]), (some 40, [5, 34], [11]), (some 41, [7, 34], [11]), (some 42, [40, 41, 34], [17, 18, 11]), (some 43, [42, 34], [19, 11]), (some 44, [43, 34], [20, 11]), (some 45, [39, 44, 34], [16, 21, 11]), (some 46, [34, 45], [11, 22])]),
  (53, 4, [(some 10, [0], []), (some 11, [3], []), (some 12, [10, 11], [0, 1]), (some 13, [12], [2]), (some 14, [13], [3]), (some 15, [14], [4]), (some 16, [15], [5]), (some 17, [0, 16], [6]), (some 18, [3, 16], [6]), (some 19, [17, 18, 16], [7, 8, 6]), (some 20, [19, 16], [9, 6]), (some 21, [20, 16], [10, 6]), (some 22, [21, 16], [11, 6]), (some 23, [16, 22], [6, 12]), (some 24, [23], [13, 6]), (some 25, [0, 24], [14]), (some 26, [3, 24], [14]), (some 27, [25, 26, 24], [15, 16, 14]), (some 28, [27, 24], [17, 14]), (some 29, [28, 24], [18, 14]), (some 30, [29, 24], [19, 14, 14]), (some 31, [30, 24], [20, 14]), (some 32, [24, 31], [14, 21]), (some 33, [32], [22, 20]), (some 34, [3, 33], [23]), (some 35, [34, 33], [24, 23]), (some 36, [35, 33], [25, 23, 23]), (some 37, [0, 36], [26]), (some 38, [3, 36], [26]), (some 39, [37, 38, 36], [27, 28, 26]), (some 40, [39, 36], [29, 26]), (some 41, [40, 36], [30, 26]), (some 42, [0, 36], [26]), (some 43, [3, 36], [26]), (some 44, [43, 36], [33, 26]), (some 45, [42, 44, 36], [32, 34, 26]), (some 46, [45, 36], [35, 26]), (some 47, [46, 36], [36, 26]), (some 48, [41, 47, 36], [31, 37, 26]), (some 49, [36, 48, 33], [26, 38, 23]), (some 50, [33, 49], [23, 39])]),
  (60, 17, [(some 93, [15], []), (some 94, [93], [0]), (some 95, [10], []), (some 96, [15], []), (some 97, [96], [3]), (some 98, [95, 97], [2, 4]), (some 99, [94, 98], [1, 5, 5]), (some 100, [99], [6]), (some 101, [100], [7, 6]), (some 102, [15, 101], [8]), (some 103, [102, 101], [9, 8]), (some 104, [11, 101], [8]), (some 105, [103, 104, 101], [10, 11, 8, 8]), (some 106, [105, 101], [12, 8]), (some 107, [101, 106], [8, 13]), (some 108, [107], [14, 12]), (some 109, [13, 108], [15]), (some 110, [109, 108], [16, 15]), (some 111, [110, 108], [17, 15, 15]), (some 112, [15, 111], [18]), (some 113, [112, 111], [19, 18]), (some 114, [12, 111], [18]), (some 115, [114, 111], [21, 18]), (some 116, [113, 115, 111], [20, 22, 18, 18]), (some 117, [116, 111], [23, 18]), (some 118, [111, 117, 108], [18, 24, 15]), (some 119, [108, 118], [15, 25])]),
  (88, 7, [(some 58, [4], []), (some 59, [58], [0]), (some 60, [59], [1]), (some 61, [60], [2]), (some 62, [4, 61], [3]), (some 63, [62, 61], [4, 3]), (some 64, [63, 61], [5, 3]), (some 65, [61, 64], [3, 6]), (some 66, [65], [7, 3]), (some 67, [4, 66], [8]), (some 68, [67, 66], [9, 8]), (some 69, [68, 66], [10, 8]), (some 70, [66, 69], [8, 11]), (some 71, [70], [12, 8]), (some 72, [4, 71], [13]), (some 73, [72, 71], [14, 13]), (some 74, [73, 71], [15, 13]), (some 75, [71, 74], [13, 16]), (some 76, [75], [17, 13]), (some 77, [3, 76], [18]), (some 78, [77, 76], [19, 18]), (some 79, [78, 76], [20, 18, 18]), (some 80, [4, 79], [21]), (some 81, [80, 79], [22, 21]), (some 82, [1, 79], [21]), (some 83, [82, 79], [24, 21]), (some 84, [3, 79], [21]), (some 85, [84, 79], [26, 21]), (some 86, [83, 85, 79], [25, 27, 21]), (some 87, [86, 79], [28, 21]), (some 88, [87, 79], [29, 21]), (some 89, [81, 88, 79], [23, 30, 21]), (some 90, [79, 89, 76], [21, 31, 18]), (some 91, [76, 90], [18, 32])]),
  (112, 9, [(some 41, [5], []), (some 42, [41], [0]), (some 43, [42], [1]), (some 44, [1, 43], [2]), (some 45, [5, 43], [2]), (some 46, [45, 43], [4, 2]), (some 47, [44, 46, 43], [3, 5, 2]), (some 48, [47, 43], [6, 2]), (some 49, [48, 43], [7, 2]), (some 50, [6, 43], [2]), (some 51, [50, 43], [9, 2]), (some 52, [49, 51, 43], [8, 10, 2]), (some 53, [52, 43], [11, 2, 2]), (some 54, [1, 53], [12]), (some 55, [5, 53], [12]), (some 56, [55, 53], [14, 12]), (some 57, [54, 56, 53], [13, 15, 12]), (some 58, [57, 53], [16, 12]), (some 59, [58, 53], [17, 12]), (some 60, [6, 53], [12]), (some 61, [60, 53], [19, 12]), (some 62, [59, 61, 53], [18, 20, 12]), (some 63, [62, 53], [21, 12, 12]), (some 64, [1, 63], [22]), (some 65, [5, 63], [22]), (some 66, [65, 63], [24, 22]), (some 67, [64, 66, 63], [23, 25, 22]), (some 68, [67, 63], [26, 22]), (some 69, [68, 63], [27, 22]), (some 70, [6, 63], [22]), (some 71, [70, 63], [29, 22]), (some 72, [69, 71, 63], [28, 30, 22]), (some 73, [63, 72, 53], [22, 31, 12]), (some 74, [53, 73, 43], [12, 32, 2]), (some 75, [43, 74], [2, 33])]),
  (172, 1, [(some 5, [0], []), (some 6, [5], [0]), (some 7, [6], [1]), (some 8, [7], [2]), (some 9, [8], [3]), (some 10, [0, 9], [4]), (some 11, [10, 9], [5, 4]), (some 12, [11, 9], [6, 4]), (some 13, [12, 9], [7, 4]), (some 14, [0, 9], [4]), (some 15, [14, 9], [9, 4]), (some 16, [15, 9], [10, 4]), (some 17, [16, 9], [11, 4]), (some 18, [17, 9], [12, 4]), (some 19, [13, 18, 9], [8, 13, 4]), (some 20, [9, 19], [4, 14]), (some 21, [20], [15, 4]), (some 22, [0, 21], [16]), (some 23, [22, 21], [17, 16]), (some 24, [23, 21], [18, 16]), (some 25, [24, 21], [19, 16]), (some 26, [0, 21], [16]), (some 27, [26, 21], [21, 16]), (some 28, [27, 21], [22, 16]), (some 29, [28, 21], [23, 16]), (some 30, [25, 29, 21], [20, 24, 16]), (some 31, [30, 21], [25, 16]), (some 32, [31, 21], [26, 16]), (some 33, [32, 21], [27, 16]), (some 34, [21, 33], [16, 28]), (some 35, [34], [29, 16]), (some 36, [0, 35], [30]), (some 37, [36, 35], [31, 30]), (some 38, [37, 35], [32, 30]), (some 39, [38, 35], [33, 30]), (some 40, [0, 35], [30]), (some 41, [40, 35], [35, 30]), (some 42, [41, 35], [36, 30]), (some 43, [42, 35], [37, 30]), (some 44, [39, 43, 35], [34, 38, 30]), (some 45, [44, 35], [39, 30]), (some 46, [45, 35], [40, 30]), (some 47, [1, 35], [30]), (some 48, [46, 47, 35], [41, 42, 30]), (some 49, [35, 48], [30, 43])]),
  (173, 17, [(some 54, [7], []), (some 55, [12], []), (some 56, [54, 55], [0, 1]), (some 57, [56], [2]), (some 58, [57], [3]), (some 59, [58], [4]), (some 60, [7, 59], [5]), (some 61, [13, 59], [5]), (some 62, [60, 61, 59], [6, 7, 5]), (some 63, [62, 59], [8, 5]), (some 64, [63, 59], [9, 5]), (some 65, [64, 59], [10, 5, 5]), (some 66, [7, 65], [11]), (some 67, [13, 65], [11]), (some 68, [66, 67, 65], [12, 13, 11]), (some 69, [68, 65], [14, 11]), (some 70, [7, 65], [11]), (some 71, [12, 65], [11]), (some 72, [70, 71, 65], [16, 17, 11]), (some 73, [72, 65], [18, 11]), (some 74, [73, 65], [19, 11]), (some 75, [69, 74, 65], [15, 20, 11]), (some 76, [65, 75, 59], [11, 21, 5]), (some 77, [59, 76], [5, 22])]),
  (178, 6, [(some 47, [2], []), (some 48, [47], [0]), (some 49, [5], []), (some 50, [48, 49], [1, 2]), (some 51, [50], [3]), (some 52, [1], []), (some 53, [51, 52], [4, 5]), (some 54, [53], [6]), (some 55, [54], [7, 6]), (some 56, [2, 55], [8]), (some 57, [56, 55], [9, 8]), (some 58, [5, 55], [8]), (some 59, [57, 58, 55], [10, 11, 8]), (some 60, [59, 55], [12, 8]), (some 61, [60, 55], [13, 8]), (some 62, [61, 55], [14, 8]), (some 63, [55, 62], [8, 15]), (some 64, [63], [16, 8]), (some 65, [5, 64], [17]), (some 66, [65, 64], [18, 17]), (some 67, [66, 64], [19, 17, 17]), (some 68, [2, 67], [20]), (some 69, [68, 67], [21, 20]), (some 70, [5, 67], [20]), (some 71, [69, 70, 67], [22, 23, 20]), (some 72, [71, 67], [24, 20]), (some 73, [72, 67], [25, 20]), (some 74, [2, 67], [20]), (some 75, [74, 67], [27, 20]), (some 76, [5, 67], [20]), (some 77, [76, 67], [29, 20]), (some 78, [75, 77, 67], [28, 30, 20]), (some 79, [78, 67], [31, 20]), (some 80, [79, 67], [32, 20]), (some 81, [73, 80, 67], [26, 33, 20]), (some 82, [67, 81, 64], [20, 34, 17]), (some 83, [64, 82], [17, 35])]),
  (178, 11, [(some 91, [2], []), (some 92, [91], [0]), (some 93, [6], []), (some 94, [92, 93], [1, 2]), (some 95, [94], [3]), (some 96, [95], [4]), (some 97, [96], [5]), (some 98, [97], [6, 5]), (some 99, [6, 98], [7]), (some 100, [99, 98], [8, 7]), (some 101, [100, 98], [9, 7, 7]), (some 102, [2, 101], [10]), (some 103, [102, 101], [11, 10]), (some 104, [6, 101], [10]), (some 105, [104, 101], [13, 10]), (some 106, [103, 105, 101], [12, 14, 10]), (some 107, [106, 101], [15, 10]), (some 108, [107, 101], [16, 10]), (some 109, [2, 101], [10]), (some 110, [109, 101], [18, 10]), (some 111, [6, 101], [10]), (some 112, [110, 111, 101], [19, 20, 10]), (some 113, [112, 101], [21, 10]), (some 114, [113, 101], [22, 10]), (some 115, [108, 114, 101], [17, 23, 10, 10]), (some 116, [115, 101], [24, 10]), (some 117, [101, 116, 98], [10, 25, 7]), (some 118, [98, 117], [7, 26])]),
  (217, 11, [(some 33, [0], []), (some 34, [33], [0]), (some 35, [34], [1]), (some 36, [35], [2]), (some 37, [0], []), (some 38, [37], [4]), (some 39, [38], [5]), (some 40, [39], [6]), (some 41, [40], [7]), (some 42, [36, 41], [3, 8]), (some 43, [42], [9]), (some 44, [0, 43], [10]), (some 45, [44, 43], [11, 10]), (some 46, [45, 43], [12, 10]), (some 47, [46, 43], [13, 10]), (some 48, [0, 43], [10]), (some 49, [48, 43], [15, 10]), (some 50, [49, 43], [16, 10]), (some 51, [50, 43], [17, 10]), (some 52, [47, 51, 43], [14, 18, 10]), (some 53, [52, 43], [19, 10]), (some 54, [53, 43], [20, 10]), (some 55, [54, 43], [21, 10]), (some 56, [43, 55], [10, 22])]),
  (255, 3, [(some 9, [0], []), (some 10, [9], [0]), (some 11, [10], [1]), (some 12, [11], [2]), (some 13, [0], []), (some 14, [13], [4]), (some 15, [14], [5]), (some 16, [15], [6]), (some 17, [16], [7]), (some 18, [12, 17], [3, 8]), (some 19, [18], [9]), (some 20, [0, 19], [10]), (some 21, [20, 19], [11, 10]), (some 22, [21, 19], [12, 10]), (some 23, [22, 19], [13, 10]), (some 24, [0, 19], [10]), (some 25, [24, 19], [15, 10]), (some 26, [25, 19], [16, 10]), (some 27, [26, 19], [17, 10]), (some 28, [23, 27, 19], [14, 18, 10]), (some 29, [28, 19], [19, 10]), (some 30, [29, 19], [20, 10]), (some 31, [30, 19], [21, 10]), (some 32, [19, 31], [10, 22]), (some 33, [32], [23, 10]), (some 34, [0, 33], [24]), (some 35, [34, 33], [25, 24]), (some 36, [35, 33], [26, 24]), (some 37, [36, 33], [27, 24]), (some 38, [0, 33], [24]), (some 39, [38, 33], [29, 24]), (some 40, [39, 33], [30, 24]), (some 41, [40, 33], [31, 24]), (some 42, [37, 41, 33], [28, 32, 24]), (some 43, [42, 33], [33, 24]), (some 44, [43, 33], [34, 24]), (some 45, [1, 33], [24]), (some 46, [44, 45, 33], [35, 36, 24]), (some 47, [33, 46], [24, 37])])]

def Tryz.nilszs : List (Nat × Nat) := [(12, 0), (42, 1), (90, 1), (91, 1), (92, 1), (94, 1), (97, 4), (98, 1), (130, 8), (137, 8), (138, 2), (139, 5), (161, 1), (226, 8)]
def Tryz.globs : List (Nat × AV) := [(0, .iface 274 (.agg [.raw (.pointer (some ⟨4, 115, none⟩))]))]
noncomputable def Tryz.phi : Phi := phi1 0 (.iface 274 (.agg #[.pointer (some ⟨4, 115, none⟩)]))
def Tryz.cfg : Cfg := { tab := Tryz.tab, live := fun f r => look2 [] Tryz.lives f r, opens := fun f => memN f [13, 38, 44, 45, 81, 82, 83, 84, 85, 86, 87, 95, 102, 107, 108, 151, 152, 153, 154, 155, 156, 164, 165, 171, 172, 202, 203, 209, 210, 217, 227, 229, 233, 234, 238, 241, 243, 252, 253, 254, 255, 256, 257, 263, 264, 297], fresh := fun f => memN f [12, 42, 90, 91, 92, 94, 97, 98, 130, 137, 138, 139, 161, 226], nilsz := fun f => (look1 Tryz.nilszs f).getD 0, plan := fun f r => look2 .stop Tryz.plans f r, glob := fun g => look1 Tryz.globs g }
def Tryz.X : Ctx := { cfg := Tryz.cfg, call := SoundCall Go.Proofs.Tryz.prog Tryz.phi, meth := IsMeth Go.Proofs.Tryz.prog, ta := Asserts Go.Proofs.Tryz.prog }
set_option maxRecDepth 100000
theorem Tryz.tabOk : tabB Go.Proofs.Tryz.prog Tryz.tab Tryz.tab = true := by kernel_rfl
theorem Tryz.mixed : Go.Proofs.Tryz.prog.follows .mixedOrders = true := by kernel_rfl
theorem Tryz.ok : CtxOk Go.Proofs.Tryz.prog Tryz.phi Tryz.X := ⟨tabB_ok Tryz.tabOk, fun _ _ _ _ h => h, fun _ _ _ _ h => h, fun _ _ _ h => h, Tryz.mixed, fun _ _ h => look1_one (Q := fun g v => R (phi1 0 (.iface 274 (.agg #[.pointer (some ⟨4, 115, none⟩)]))) m0 (.cptr v) (.pointer (some ⟨g, 0, none⟩))) (glob_hand (g := 0)) h⟩
noncomputable def Tryz.fns : List (Nat × Func) := [(2, Go.Proofs.Tryz.f2), (3, Go.Proofs.Tryz.f3), (4, Go.Proofs.Tryz.f4), (5, Go.Proofs.Tryz.f5), (6, Go.Proofs.Tryz.f6), (7, Go.Proofs.Tryz.f7), (8, Go.Proofs.Tryz.f8), (9, Go.Proofs.Tryz.f9), (10, Go.Proofs.Tryz.f10), (11, Go.Proofs.Tryz.f11), (12, Go.Proofs.Tryz.f12), (13, Go.Proofs.Tryz.f13), (14, Go.Proofs.Tryz.f14), (15, Go.Proofs.Tryz.f15), (16, Go.Proofs.Tryz.f16), (17, Go.Proofs.Tryz.f17), (18, Go.Proofs.Tryz.f18), (19, Go.Proofs.Tryz.f19), (20, Go.Proofs.Tryz.f20), (21, Go.Proofs.Tryz.f21), (22, Go.Proofs.Tryz.f22), (23, Go.Proofs.Tryz.f23), (24, Go.Proofs.Tryz.f24), (25, Go.Proofs.Tryz.f25), (26, Go.Proofs.Tryz.f26), (27, Go.Proofs.Tryz.f27), (28, Go.Proofs.Tryz.f28), (29, Go.Proofs.Tryz.f29), (30, Go.Proofs.Tryz.f30), (31, Go.Proofs.Tryz.f31), (32, Go.Proofs.Tryz.f32), (33, Go.Proofs.Tryz.f33), (34, Go.Proofs.Tryz.f34), (35, Go.Proofs.Tryz.f35), (36, Go.Proofs.Tryz.f36), (37, Go.Proofs.Tryz.f37), (38, Go.Proofs.Tryz.f38), (39, Go.Proofs.Tryz.f39), (40, Go.Proofs.Tryz.f40), (41, Go.Proofs.Tryz.f41), (42, Go.Proofs.Tryz.f42), (43, Go.Proofs.Tryz.f43), (44, Go.Proofs.Tryz.f44), (45, Go.Proofs.Tryz.f45), (46, Go.Proofs.Tryz.f46), (47, Go.Proofs.Tryz.f47), (48, Go.Proofs.Tryz.f48), (49, Go.Proofs.Tryz.f49), (50, Go.Proofs.Tryz.f50), (51, Go.Proofs.Tryz.f51), (52, Go.Proofs.Tryz.f52), (53, Go.Proofs.Tryz.f53), (54, Go.Proofs.Tryz.f54), (55, Go.Proofs.Tryz.f55), (56, Go.Proofs.Tryz.f56), (57, Go.Proofs.Tryz.f57), (58, Go.Proofs.Tryz.f58), (59, Go.Proofs.Tryz.f59), (60, Go.Proofs.Tryz.f60), (61, Go.Proofs.Tryz.f61), (62, Go.Proofs.Tryz.f62), (63, Go.Proofs.Tryz.f63), (64, Go.Proofs.Tryz.f64), (65, Go.Proofs.Tryz.f65), (66, Go.Proofs.Tryz.f66), (67, Go.Proofs.Tryz.f67), (68, Go.Proofs.Tryz.f68), (69, Go.Proofs.Tryz.f69), (70, Go.Proofs.Tryz.f70), (71, Go.Proofs.Tryz.f71), (72, Go.Proofs.Tryz.f72), (73, Go.Proofs.Tryz.f73), (74, Go.Proofs.Tryz.f74), (75, Go.Proofs.Tryz.f75), (76, Go.Proofs.Tryz.f76), (77, Go.Proofs.Tryz.f77), (78, Go.Proofs.Tryz.f78), (79, Go.Proofs.Tryz.f79), (80, Go.Proofs.Tryz.f80), (81, Go.Proofs.Tryz.f81), (82, Go.Proofs.Tryz.f82), (83, Go.Proofs.Tryz.f83), (84, Go.Proofs.Tryz.f84), (85, Go.Proofs.Tryz.f85), (86, Go.Proofs.Tryz.f86), (87, Go.Proofs.Tryz.f87), (88, Go.Proofs.Tryz.f88), (89, Go.Proofs.Tryz.f89), (90, Go.Proofs.Tryz.f90), (91, Go.Proofs.Tryz.f91), (92, Go.Proofs.Tryz.f92), (93, Go.Proofs.Tryz.f93), (94, Go.Proofs.Tryz.f94), (95, Go.Proofs.Tryz.f95), (96, Go.Proofs.Tryz.f96), (97, Go.Proofs.Tryz.f97), (98, Go.Proofs.Tryz.f98), (99, Go.Proofs.Tryz.f99), (100, Go.Proofs.Tryz.f100), (101, Go.Proofs.Tryz.f101), (102, Go.Proofs.Tryz.f102), (103, Go.Proofs.Tryz.f103), (104, Go.Proofs.Tryz.f104), (105, Go.Proofs.Tryz.f105), (106, Go.Proofs.Tryz.f106), (107, Go.Proofs.Tryz.f107), (108, Go.Proofs.Tryz.f108), (109, Go.Proofs.Tryz.f109), (110, Go.Proofs.Tryz.f110), (111, Go.Proofs.Tryz.f111), (112, Go.Proofs.Tryz.f112), (113, Go.Proofs.Tryz.f113), (114, Go.Proofs.Tryz.f114), (115, Go.Proofs.Tryz.f115), (116, Go.Proofs.Tryz.f116), (117, Go.Proofs.Tryz.f117), (118, Go.Proofs.Tryz.f118), (119, Go.Proofs.Tryz.f119), (120, Go.Proofs.Tryz.f120), (121, Go.Proofs.Tryz.f121), (122, Go.Proofs.Tryz.f122), (123, Go.Proofs.Tryz.f123), (124, Go.Proofs.Tryz.f124), (125, Go.Proofs.Tryz.f125), (126, Go.Proofs.Tryz.f126), (127, Go.Proofs.Tryz.f127), (128, Go.Proofs.Tryz.f128), (129, Go.Proofs.Tryz.f129), (130, Go.Proofs.Tryz.f130), (131, Go.Proofs.Tryz.f131), (132, Go.Proofs.Tryz.f132), (133, Go.Proofs.Tryz.f133), (134, Go.Proofs.Tryz.f134), (135, Go.Proofs.Tryz.f135), (136, Go.Proofs.Tryz.f136), (137, Go.Proofs.Tryz.f137), (138, Go.Proofs.Tryz.f138), (139, Go.Proofs.Tryz.f139), (140, Go.Proofs.Tryz.f140), (141, Go.Proofs.Tryz.f141), (142, Go.Proofs.Tryz.f142), (143, Go.Proofs.Tryz.f143), (144, Go.Proofs.Tryz.f144), (145, Go.Proofs.Tryz.f145), (146, Go.Proofs.Tryz.f146), (147, Go.Proofs.Tryz.f147), (148, Go.Proofs.Tryz.f148), (149, Go.Proofs.Tryz.f149), (150, Go.Proofs.Tryz.f150), (151, Go.Proofs.Tryz.f151), (152, Go.Proofs.Tryz.f152), (156, Go.Proofs.Tryz.f156), (157, Go.Proofs.Tryz.f157), (158, Go.Proofs.Tryz.f158), (159, Go.Proofs.Tryz.f159), (160, Go.Proofs.Tryz.f160), (161, Go.Proofs.Tryz.f161), (162, Go.Proofs.Tryz.f162), (163, Go.Proofs.Tryz.f163), (164, Go.Proofs.Tryz.f164), (165, Go.Proofs.Tryz.f165), (166, Go.Proofs.Tryz.f166), (168, Go.Proofs.Tryz.f168), (169, Go.Proofs.Tryz.f169), (170, Go.Proofs.Tryz.f170), (171, Go.Proofs.Tryz.f171), (172, Go.Proofs.Tryz.f172), (173, Go.Proofs.Tryz.f173), (174, Go.Proofs.Tryz.f174), (175, Go.Proofs.Tryz.f175), (176, Go.Proofs.Tryz.f176), (177, Go.Proofs.Tryz.f177), (178, Go.Proofs.Tryz.f178), (179, Go.Proofs.Tryz.f179), (180, Go.Proofs.Tryz.f180), (181, Go.Proofs.Tryz.f181), (182, Go.Proofs.Tryz.f182), (183, Go.Proofs.Tryz.f183), (184, Go.Proofs.Tryz.f184), (185, Go.Proofs.Tryz.f185), (186, Go.Proofs.Tryz.f186), (187, Go.Proofs.Tryz.f187), (188, Go.Proofs.Tryz.f188), (189, Go.Proofs.Tryz.f189), (190, Go.Proofs.Tryz.f190), (191, Go.Proofs.Tryz.f191), (192, Go.Proofs.Tryz.f192), (193, Go.Proofs.Tryz.f193), (194, Go.Proofs.Tryz.f194), (195, Go.Proofs.Tryz.f195), (196, Go.Proofs.Tryz.f196), (197, Go.Proofs.Tryz.f197), (198, Go.Proofs.Tryz.f198), (199, Go.Proofs.Tryz.f199), (200, Go.Proofs.Tryz.f200), (201, Go.Proofs.Tryz.f201), (204, Go.Proofs.Tryz.f204), (205, Go.Proofs.Tryz.f205), (206, Go.Proofs.Tryz.f206), (207, Go.Proofs.Tryz.f207), (208, Go.Proofs.Tryz.f208), (209, Go.Proofs.Tryz.f209), (210, Go.Proofs.Tryz.f210), (211, Go.Proofs.Tryz.f211), (212, Go.Proofs.Tryz.f212), (213, Go.Proofs.Tryz.f213), (214, Go.Proofs.Tryz.f214), (215, Go.Proofs.Tryz.f215), (216, Go.Proofs.Tryz.f216), (217, Go.Proofs.Tryz.f217), (218, Go.Proofs.Tryz.f218), (219, Go.Proofs.Tryz.f219), (220, Go.Proofs.Tryz.f220), (221, Go.Proofs.Tryz.f221), (222, Go.Proofs.Tryz.f222), (223, Go.Proofs.Tryz.f223), (224, Go.Proofs.Tryz.f224), (225, Go.Proofs.Tryz.f225), (226, Go.Proofs.Tryz.f226), (227, Go.Proofs.Tryz.f227), (228, Go.Proofs.Tryz.f228), (229, Go.Proofs.Tryz.f229), (230, Go.Proofs.Tryz.f230), (231, Go.Proofs.Tryz.f231), (232, Go.Proofs.Tryz.f232), (233, Go.Proofs.Tryz.f233), (234, Go.Proofs.Tryz.f234), (235, Go.Proofs.Tryz.f235), (236, Go.Proofs.Tryz.f236), (237, Go.Proofs.Tryz.f237), (238, Go.Proofs.Tryz.f238), (239, Go.Proofs.Tryz.f239), (241, Go.Proofs.Tryz.f241), (243, Go.Proofs.Tryz.f243), (244, Go.Proofs.Tryz.f244), (245, Go.Proofs.Tryz.f245), (246, Go.Proofs.Tryz.f246), (247, Go.Proofs.Tryz.f247), (248, Go.Proofs.Tryz.f248), (249, Go.Proofs.Tryz.f249), (250, Go.Proofs.Tryz.f250), (251, Go.Proofs.Tryz.f251), (252, Go.Proofs.Tryz.f252), (253, Go.Proofs.Tryz.f253), (254, Go.Proofs.Tryz.f254), (255, Go.Proofs.Tryz.f255), (256, Go.Proofs.Tryz.f256), (257, Go.Proofs.Tryz.f257), (258, Go.Proofs.Tryz.f258), (259, Go.Proofs.Tryz.f259), (260, Go.Proofs.Tryz.f260), (261, Go.Proofs.Tryz.f261), (263, Go.Proofs.Tryz.f263), (264, Go.Proofs.Tryz.f264), (265, Go.Proofs.Tryz.f265), (266, Go.Proofs.Tryz.f266), (267, Go.Proofs.Tryz.f267), (268, Go.Proofs.Tryz.f268), (269, Go.Proofs.Tryz.f269), (293, Go.Proofs.Tryz.f293), (295, Go.Proofs.Tryz.f295), (301, Go.Proofs.Tryz.f301), (314, Go.Proofs.Tryz.f314), (319, Go.Proofs.Tryz.f319), (321, Go.Proofs.Tryz.f321), (323, Go.Proofs.Tryz.f323), (325, Go.Proofs.Tryz.f325), (332, Go.Proofs.Tryz.f332)]
theorem Tryz.ok2 : fnB Tryz.cfg Tryz.digs 2 Go.Proofs.Tryz.f2 = true := by kernel_rfl
theorem Tryz.ok3 : fnB Tryz.cfg Tryz.digs 3 Go.Proofs.Tryz.f3 = true := by kernel_rfl
theorem Tryz.ok4 : fnB Tryz.cfg Tryz.digs 4 Go.Proofs.Tryz.f4 = true := by kernel_rfl
theorem Tryz.ok5 : fnB Tryz.cfg Tryz.digs 5 Go.Proofs.Tryz.f5 = true := by kernel_rfl
theorem Tryz.ok6 : fnB Tryz.cfg Tryz.digs 6 Go.Proofs.Tryz.f6 = true := by kernel_rfl
theorem Tryz.ok7 : fnB Tryz.cfg Tryz.digs 7 Go.Proofs.Tryz.f7 = true := by kernel_rfl
theorem Tryz.ok8 : fnB Tryz.cfg Tryz.digs 8 Go.Proofs.Tryz.f8 = true := by kernel_rfl
theorem Tryz.ok9 : fnB Tryz.cfg Tryz.digs 9 Go.Proofs.Tryz.f9 = true := by kernel_rfl
theorem Tryz.ok10 : fnB Tryz.cfg Tryz.digs 10 Go.Proofs.Tryz.f10 = true := by kernel_rfl
theorem Tryz.ok11 : fnB Tryz.cfg Tryz.digs 11 Go.Proofs.Tryz.f11 = true := by kernel_rfl
theorem Tryz.ok12 : fnB Tryz.cfg Tryz.digs 12 Go.Proofs.Tryz.f12 = true := by kernel_rfl
theorem Tryz.ok13 : fnB Tryz.cfg Tryz.digs 13 Go.Proofs.Tryz.f13 = true := by kernel_rfl
theorem Tryz.ok14 : fnB Tryz.cfg Tryz.digs 14 Go.Proofs.Tryz.f14 = true := by kernel_rfl
theorem Tryz.ok15 : fnB Tryz.cfg Tryz.digs 15 Go.Proofs.Tryz.f15 = true := by kernel_rfl
theorem Tryz.ok16 : fnB Tryz.cfg Tryz.digs 16 Go.Proofs.Tryz.f16 = true := by kernel_rfl
theorem Tryz.ok17 : fnB Tryz.cfg Tryz.digs 17 Go.Proofs.Tryz.f17 = true := by kernel_rfl
theorem Tryz.ok18 : fnB Tryz.cfg Tryz.digs 18 Go.Proofs.Tryz.f18 = true := by kernel_rfl
theorem Tryz.ok19 : fnB Tryz.cfg Tryz.digs 19 Go.Proofs.Tryz.f19 = true := by kernel_rfl
theorem Tryz.ok20 : fnB Tryz.cfg Tryz.digs 20 Go.Proofs.Tryz.f20 = true := by kernel_rfl
theorem Tryz.ok21 : fnB Tryz.cfg Tryz.digs 21 Go.Proofs.Tryz.f21 = true := by kernel_rfl
theorem Tryz.ok22 : fnB Tryz.cfg Tryz.digs 22 Go.Proofs.Tryz.f22 = true := by kernel_rfl
theorem Tryz.ok23 : fnB Tryz.cfg Tryz.digs 23 Go.Proofs.Tryz.f23 = true := by kernel_rfl
theorem Tryz.ok24 : fnB Tryz.cfg Tryz.digs 24 Go.Proofs.Tryz.f24 = true := by kernel_rfl
theorem Tryz.ok25 : fnB Tryz.cfg Tryz.digs 25 Go.Proofs.Tryz.f25 = true := by kernel_rfl
theorem Tryz.ok26 : fnB Tryz.cfg Tryz.digs 26 Go.Proofs.Tryz.f26 = true := by kernel_rfl
theorem Tryz.ok27 : fnB Tryz.cfg Tryz.digs 27 Go.Proofs.Tryz.f27 = true := by kernel_rfl
theorem Tryz.ok28 : fnB Tryz.cfg Tryz.digs 28 Go.Proofs.Tryz.f28 = true := by kernel_rfl
theorem Tryz.ok29 : fnB Tryz.cfg Tryz.digs 29 Go.Proofs.Tryz.f29 = true := by kernel_rfl
theorem Tryz.ok30 : fnB Tryz.cfg Tryz.digs 30 Go.Proofs.Tryz.f30 = true := by kernel_rfl
theorem Tryz.ok31 : fnB Tryz.cfg Tryz.digs 31 Go.Proofs.Tryz.f31 = true := by kernel_rfl
theorem Tryz.ok32 : fnB Tryz.cfg Tryz.digs 32 Go.Proofs.Tryz.f32 = true := by kernel_rfl
theorem Tryz.ok33 : fnB Tryz.cfg Tryz.digs 33 Go.Proofs.Tryz.f33 = true := by kernel_rfl
theorem Tryz.ok34 : fnB Tryz.cfg Tryz.digs 34 Go.Proofs.Tryz.f34 = true := by kernel_rfl
theorem Tryz.ok35 : fnB Tryz.cfg Tryz.digs 35 Go.Proofs.Tryz.f35 = true := by kernel_rfl
theorem Tryz.ok36 : fnB Tryz.cfg Tryz.digs 36 Go.Proofs.Tryz.f36 = true := by kernel_rfl
theorem Tryz.ok37 : fnB Tryz.cfg Tryz.digs 37 Go.Proofs.Tryz.f37 = true := by kernel_rfl
theorem Tryz.ok38 : fnB Tryz.cfg Tryz.digs 38 Go.Proofs.Tryz.f38 = true := by kernel_rfl
theorem Tryz.ok39 : fnB Tryz.cfg Tryz.digs 39 Go.Proofs.Tryz.f39 = true := by kernel_rfl
theorem Tryz.ok40 : fnB Tryz.cfg Tryz.digs 40 Go.Proofs.Tryz.f40 = true := by kernel_rfl
theorem Tryz.ok41 : fnB Tryz.cfg Tryz.digs 41 Go.Proofs.Tryz.f41 = true := by kernel_rfl
theorem Tryz.ok42 : fnB Tryz.cfg Tryz.digs 42 Go.Proofs.Tryz.f42 = true := by kernel_rfl
theorem Tryz.ok43 : fnB Tryz.cfg Tryz.digs 43 Go.Proofs.Tryz.f43 = true := by kernel_rfl
theorem Tryz.ok44 : fnB Tryz.cfg Tryz.digs 44 Go.Proofs.Tryz.f44 = true := by kernel_rfl
theorem Tryz.ok45 : fnB Tryz.cfg Tryz.digs 45 Go.Proofs.Tryz.f45 = true := by kernel_rfl
theorem Tryz.ok46 : fnB Tryz.cfg Tryz.digs 46 Go.Proofs.Tryz.f46 = true := by kernel_rfl
theorem Tryz.ok47 : fnB Tryz.cfg Tryz.digs 47 Go.Proofs.Tryz.f47 = true := by kernel_rfl
theorem Tryz.ok48 : fnB Tryz.cfg Tryz.digs 48 Go.Proofs.Tryz.f48 = true := by kernel_rfl
theorem Tryz.ok49 : fnB Tryz.cfg Tryz.digs 49 Go.Proofs.Tryz.f49 = true := by kernel_rfl
theorem Tryz.ok50 : fnB Tryz.cfg Tryz.digs 50 Go.Proofs.Tryz.f50 = true := by kernel_rfl
theorem Tryz.ok51 : fnB Tryz.cfg Tryz.digs 51 Go.Proofs.Tryz.f51 = true := by kernel_rfl
theorem Tryz.ok52 : fnB Tryz.cfg Tryz.digs 52 Go.Proofs.Tryz.f52 = true := by kernel_rfl
theorem Tryz.ok53 : fnB Tryz.cfg Tryz.digs 53 Go.Proofs.Tryz.f53 = true := by kernel_rfl
theorem Tryz.ok54 : fnB Tryz.cfg Tryz.digs 54 Go.Proofs.Tryz.f54 = true := by kernel_rfl
theorem Tryz.ok55 : fnB Tryz.cfg Tryz.digs 55 Go.Proofs.Tryz.f55 = true := by kernel_rfl
theorem Tryz.ok56 : fnB Tryz.cfg Tryz.digs 56 Go.Proofs.Tryz.f56 = true := by kernel_rfl
theorem Tryz.ok57 : fnB Tryz.cfg Tryz.digs 57 Go.Proofs.Tryz.f57 = true := by kernel_rfl
theorem Tryz.ok58 : fnB Tryz.cfg Tryz.digs 58 Go.Proofs.Tryz.f58 = true := by kernel_rfl
theorem Tryz.ok59 : fnB Tryz.cfg Tryz.digs 59 Go.Proofs.Tryz.f59 = true := by kernel_rfl
theorem Tryz.ok60 : fnB Tryz.cfg Tryz.digs 60 Go.Proofs.Tryz.f60 = true := by kernel_rfl
theorem Tryz.ok61 : fnB Tryz.cfg Tryz.digs 61 Go.Proofs.Tryz.f61 = true := by kernel_rfl
theorem Tryz.ok62 : fnB Tryz.cfg Tryz.digs 62 Go.Proofs.Tryz.f62 = true := by kernel_rfl
theorem Tryz.ok63 : fnB Tryz.cfg Tryz.digs 63 Go.Proofs.Tryz.f63 = true := by kernel_rfl
theorem Tryz.ok64 : fnB Tryz.cfg Tryz.digs 64 Go.Proofs.Tryz.f64 = true := by kernel_rfl
theorem Tryz.ok65 : fnB Tryz.cfg Tryz.digs 65 Go.Proofs.Tryz.f65 = true := by kernel_rfl
theorem Tryz.ok66 : fnB Tryz.cfg Tryz.digs 66 Go.Proofs.Tryz.f66 = true := by kernel_rfl
theorem Tryz.ok67 : fnB Tryz.cfg Tryz.digs 67 Go.Proofs.Tryz.f67 = true := by kernel_rfl
theorem Tryz.ok68 : fnB Tryz.cfg Tryz.digs 68 Go.Proofs.Tryz.f68 = true := by kernel_rfl
theorem Tryz.ok69 : fnB Tryz.cfg Tryz.digs 69 Go.Proofs.Tryz.f69 = true := by kernel_rfl
theorem Tryz.ok70 : fnB Tryz.cfg Tryz.digs 70 Go.Proofs.Tryz.f70 = true := by kernel_rfl
theorem Tryz.ok71 : fnB Tryz.cfg Tryz.digs 71 Go.Proofs.Tryz.f71 = true := by kernel_rfl
theorem Tryz.ok72 : fnB Tryz.cfg Tryz.digs 72 Go.Proofs.Tryz.f72 = true := by kernel_rfl
theorem Tryz.ok73 : fnB Tryz.cfg Tryz.digs 73 Go.Proofs.Tryz.f73 = true := by kernel_rfl
theorem Tryz.ok74 : fnB Tryz.cfg Tryz.digs 74 Go.Proofs.Tryz.f74 = true := by kernel_rfl
theorem Tryz.ok75 : fnB Tryz.cfg Tryz.digs 75 Go.Proofs.Tryz.f75 = true := by kernel_rfl
theorem Tryz.ok76 : fnB Tryz.cfg Tryz.digs 76 Go.Proofs.Tryz.f76 = true := by kernel_rfl
theorem Tryz.ok77 : fnB Tryz.cfg Tryz.digs 77 Go.Proofs.Tryz.f77 = true := by kernel_rfl
theorem Tryz.ok78 : fnB Tryz.cfg Tryz.digs 78 Go.Proofs.Tryz.f78 = true := by kernel_rfl
theorem Tryz.ok79 : fnB Tryz.cfg Tryz.digs 79 Go.Proofs.Tryz.f79 = true := by kernel_rfl
theorem Tryz.ok80 : fnB Tryz.cfg Tryz.digs 80 Go.Proofs.Tryz.f80 = true := by kernel_rfl
theorem Tryz.ok81 : fnB Tryz.cfg Tryz.digs 81 Go.Proofs.Tryz.f81 = true := by kernel_rfl
theorem Tryz.ok82 : fnB Tryz.cfg Tryz.digs 82 Go.Proofs.Tryz.f82 = true := by kernel_rfl
theorem Tryz.ok83 : fnB Tryz.cfg Tryz.digs 83 Go.Proofs.Tryz.f83 = true := by kernel_rfl
theorem Tryz.ok84 : fnB Tryz.cfg Tryz.digs 84 Go.Proofs.Tryz.f84 = true := by kernel_rfl
theorem Tryz.ok85 : fnB Tryz.cfg Tryz.digs 85 Go.Proofs.Tryz.f85 = true := by kernel_rfl
theorem Tryz.ok86 : fnB Tryz.cfg Tryz.digs 86 Go.Proofs.Tryz.f86 = true := by kernel_rfl
theorem Tryz.ok87 : fnB Tryz.cfg Tryz.digs 87 Go.Proofs.Tryz.f87 = true := by kernel_rfl
theorem Tryz.ok88 : fnB Tryz.cfg Tryz.digs 88 Go.Proofs.Tryz.f88 = true := by kernel_rfl
theorem Tryz.ok89 : fnB Tryz.cfg Tryz.digs 89 Go.Proofs.Tryz.f89 = true := by kernel_rfl
theorem Tryz.ok90 : fnB Tryz.cfg Tryz.digs 90 Go.Proofs.Tryz.f90 = true := by kernel_rfl
theorem Tryz.ok91 : fnB Tryz.cfg Tryz.digs 91 Go.Proofs.Tryz.f91 = true := by kernel_rfl
theorem Tryz.ok92 : fnB Tryz.cfg Tryz.digs 92 Go.Proofs.Tryz.f92 = true := by kernel_rfl
theorem Tryz.ok93 : fnB Tryz.cfg Tryz.digs 93 Go.Proofs.Tryz.f93 = true := by kernel_rfl
theorem Tryz.ok94 : fnB Tryz.cfg Tryz.digs 94 Go.Proofs.Tryz.f94 = true := by kernel_rfl
theorem Tryz.ok95 : fnB Tryz.cfg Tryz.digs 95 Go.Proofs.Tryz.f95 = true := by kernel_rfl
theorem Tryz.ok96 : fnB Tryz.cfg Tryz.digs 96 Go.Proofs.Tryz.f96 = true := by kernel_rfl
theorem Tryz.ok97 : fnB Tryz.cfg Tryz.digs 97 Go.Proofs.Tryz.f97 = true := by kernel_rfl
theorem Tryz.ok98 : fnB Tryz.cfg Tryz.digs 98 Go.Proofs.Tryz.f98 = true := by kernel_rfl
theorem Tryz.ok99 : fnB Tryz.cfg Tryz.digs 99 Go.Proofs.Tryz.f99 = true := by kernel_rfl
theorem Tryz.ok100 : fnB Tryz.cfg Tryz.digs 100 Go.Proofs.Tryz.f100 = true := by kernel_rfl
theorem Tryz.ok101 : fnB Tryz.cfg Tryz.digs 101 Go.Proofs.Tryz.f101 = true := by kernel_rfl
theorem Tryz.ok102 : fnB Tryz.cfg Tryz.digs 102 Go.Proofs.Tryz.f102 = true := by kernel_rfl
theorem Tryz.ok103 : fnB Tryz.cfg Tryz.digs 103 Go.Proofs.Tryz.f103 = true := by kernel_rfl
theorem Tryz.ok104 : fnB Tryz.cfg Tryz.digs 104 Go.Proofs.Tryz.f104 = true := by kernel_rfl
theorem Tryz.ok105 : fnB Tryz.cfg Tryz.digs 105 Go.Proofs.Tryz.f105 = true := by kernel_rfl
theorem Tryz.ok106 : fnB Tryz.cfg Tryz.digs 106 Go.Proofs.Tryz.f106 = true := by kernel_rfl
theorem Tryz.ok107 : fnB Tryz.cfg Tryz.digs 107 Go.Proofs.Tryz.f107 = true := by kernel_rfl
theorem Tryz.ok108 : fnB Tryz.cfg Tryz.digs 108 Go.Proofs.Tryz.f108 = true := by kernel_rfl
theorem Tryz.ok109 : fnB Tryz.cfg Tryz.digs 109 Go.Proofs.Tryz.f109 = true := by kernel_rfl
theorem Tryz.ok110 : fnB Tryz.cfg Tryz.digs 110 Go.Proofs.Tryz.f110 = true := by kernel_rfl
theorem Tryz.ok111 : fnB Tryz.cfg Tryz.digs 111 Go.Proofs.Tryz.f111 = true := by kernel_rfl
theorem Tryz.ok112 : fnB Tryz.cfg Tryz.digs 112 Go.Proofs.Tryz.f112 = true := by kernel_rfl
theorem Tryz.ok113 : fnB Tryz.cfg Tryz.digs 113 Go.Proofs.Tryz.f113 = true := by kernel_rfl
theorem Tryz.ok114 : fnB Tryz.cfg Tryz.digs 114 Go.Proofs.Tryz.f114 = true := by kernel_rfl
theorem Tryz.ok115 : fnB Tryz.cfg Tryz.digs 115 Go.Proofs.Tryz.f115 = true := by kernel_rfl
theorem Tryz.ok116 : fnB Tryz.cfg Tryz.digs 116 Go.Proofs.Tryz.f116 = true := by kernel_rfl
theorem Tryz.ok117 : fnB Tryz.cfg Tryz.digs 117 Go.Proofs.Tryz.f117 = true := by kernel_rfl
theorem Tryz.ok118 : fnB Tryz.cfg Tryz.digs 118 Go.Proofs.Tryz.f118 = true := by kernel_rfl
theorem Tryz.ok119 : fnB Tryz.cfg Tryz.digs 119 Go.Proofs.Tryz.f119 = true := by kernel_rfl
theorem Tryz.ok120 : fnB Tryz.cfg Tryz.digs 120 Go.Proofs.Tryz.f120 = true := by kernel_rfl
theorem Tryz.ok121 : fnB Tryz.cfg Tryz.digs 121 Go.Proofs.Tryz.f121 = true := by kernel_rfl
theorem Tryz.ok122 : fnB Tryz.cfg Tryz.digs 122 Go.Proofs.Tryz.f122 = true := by kernel_rfl
theorem Tryz.ok123 : fnB Tryz.cfg Tryz.digs 123 Go.Proofs.Tryz.f123 = true := by kernel_rfl
theorem Tryz.ok124 : fnB Tryz.cfg Tryz.digs 124 Go.Proofs.Tryz.f124 = true := by kernel_rfl
theorem Tryz.ok125 : fnB Tryz.cfg Tryz.digs 125 Go.Proofs.Tryz.f125 = true := by kernel_rfl
theorem Tryz.ok126 : fnB Tryz.cfg Tryz.digs 126 Go.Proofs.Tryz.f126 = true := by kernel_rfl
theorem Tryz.ok127 : fnB Tryz.cfg Tryz.digs 127 Go.Proofs.Tryz.f127 = true := by kernel_rfl
theorem Tryz.ok128 : fnB Tryz.cfg Tryz.digs 128 Go.Proofs.Tryz.f128 = true := by kernel_rfl
theorem Tryz.ok129 : fnB Tryz.cfg Tryz.digs 129 Go.Proofs.Tryz.f129 = true := by kernel_rfl
theorem Tryz.ok130 : fnB Tryz.cfg Tryz.digs 130 Go.Proofs.Tryz.f130 = true := by kernel_rfl
theorem Tryz.ok131 : fnB Tryz.cfg Tryz.digs 131 Go.Proofs.Tryz.f131 = true := by kernel_rfl
theorem Tryz.ok132 : fnB Tryz.cfg Tryz.digs 132 Go.Proofs.Tryz.f132 = true := by kernel_rfl
theorem Tryz.ok133 : fnB Tryz.cfg Tryz.digs 133 Go.Proofs.Tryz.f133 = true := by kernel_rfl
theorem Tryz.ok134 : fnB Tryz.cfg Tryz.digs 134 Go.Proofs.Tryz.f134 = true := by kernel_rfl
theorem Tryz.ok135 : fnB Tryz.cfg Tryz.digs 135 Go.Proofs.Tryz.f135 = true := by kernel_rfl
theorem Tryz.ok136 : fnB Tryz.cfg Tryz.digs 136 Go.Proofs.Tryz.f136 = true := by kernel_rfl
theorem Tryz.ok137 : fnB Tryz.cfg Tryz.digs 137 Go.Proofs.Tryz.f137 = true := by kernel_rfl
theorem Tryz.ok138 : fnB Tryz.cfg Tryz.digs 138 Go.Proofs.Tryz.f138 = true := by kernel_rfl
theorem Tryz.ok139 : fnB Tryz.cfg Tryz.digs 139 Go.Proofs.Tryz.f139 = true := by kernel_rfl
theorem Tryz.ok140 : fnB Tryz.cfg Tryz.digs 140 Go.Proofs.Tryz.f140 = true := by kernel_rfl
theorem Tryz.ok141 : fnB Tryz.cfg Tryz.digs 141 Go.Proofs.Tryz.f141 = true := by kernel_rfl
theorem Tryz.ok142 : fnB Tryz.cfg Tryz.digs 142 Go.Proofs.Tryz.f142 = true := by kernel_rfl
theorem Tryz.ok143 : fnB Tryz.cfg Tryz.digs 143 Go.Proofs.Tryz.f143 = true := by kernel_rfl
theorem Tryz.ok144 : fnB Tryz.cfg Tryz.digs 144 Go.Proofs.Tryz.f144 = true := by kernel_rfl
theorem Tryz.ok145 : fnB Tryz.cfg Tryz.digs 145 Go.Proofs.Tryz.f145 = true := by kernel_rfl
theorem Tryz.ok146 : fnB Tryz.cfg Tryz.digs 146 Go.Proofs.Tryz.f146 = true := by kernel_rfl
theorem Tryz.ok147 : fnB Tryz.cfg Tryz.digs 147 Go.Proofs.Tryz.f147 = true := by kernel_rfl
theorem Tryz.ok148 : fnB Tryz.cfg Tryz.digs 148 Go.Proofs.Tryz.f148 = true := by kernel_rfl
theorem Tryz.ok149 : fnB Tryz.cfg Tryz.digs 149 Go.Proofs.Tryz.f149 = true := by kernel_rfl
theorem Tryz.ok150 : fnB Tryz.cfg Tryz.digs 150 Go.Proofs.Tryz.f150 = true := by kernel_rfl
theorem Tryz.ok151 : fnB Tryz.cfg Tryz.digs 151 Go.Proofs.Tryz.f151 = true := by kernel_rfl
theorem Tryz.ok152 : fnB Tryz.cfg Tryz.digs 152 Go.Proofs.Tryz.f152 = true := by kernel_rfl
theorem Tryz.ok156 : fnB Tryz.cfg Tryz.digs 156 Go.Proofs.Tryz.f156 = true := by kernel_rfl
theorem Tryz.ok157 : fnB Tryz.cfg Tryz.digs 157 Go.Proofs.Tryz.f157 = true := by kernel_rfl
theorem Tryz.ok158 : fnB Tryz.cfg Tryz.digs 158 Go.Proofs.Tryz.f158 = true := by kernel_rfl
theorem Tryz.ok159 : fnB Tryz.cfg Tryz.digs 159 Go.Proofs.Tryz.f159 = true := by kernel_rfl
theorem Tryz.ok160 : fnB Tryz.cfg Tryz.digs 160 Go.Proofs.Tryz.f160 = true := by kernel_rfl
theorem Tryz.ok161 : fnB Tryz.cfg Tryz.digs 161 Go.Proofs.Tryz.f161 = true := by kernel_rfl
theorem Tryz.ok162 : fnB Tryz.cfg Tryz.digs 162 Go.Proofs.Tryz.f162 = true := by kernel_rfl
theorem Tryz.ok163 : fnB Tryz.cfg Tryz.digs 163 Go.Proofs.Tryz.f163 = true := by kernel_rfl
theorem Tryz.ok164 : fnB Tryz.cfg Tryz.digs 164 Go.Proofs.Tryz.f164 = true := by kernel_rfl
theorem Tryz.ok165 : fnB Tryz.cfg Tryz.digs 165 Go.Proofs.Tryz.f165 = true := by kernel_rfl
theorem Tryz.ok166 : fnB Tryz.cfg Tryz.digs 166 Go.Proofs.Tryz.f166 = true := by kernel_rfl
theorem Tryz.ok168 : fnB Tryz.cfg Tryz.digs 168 Go.Proofs.Tryz.f168 = true := by kernel_rfl
theorem Tryz.ok169 : fnB Tryz.cfg Tryz.digs 169 Go.Proofs.Tryz.f169 = true := by kernel_rfl
theorem Tryz.ok170 : fnB Tryz.cfg Tryz.digs 170 Go.Proofs.Tryz.f170 = true := by kernel_rfl
theorem Tryz.ok171 : fnB Tryz.cfg Tryz.digs 171 Go.Proofs.Tryz.f171 = true := by kernel_rfl
theorem Tryz.ok172 : fnB Tryz.cfg Tryz.digs 172 Go.Proofs.Tryz.f172 = true := by kernel_rfl
theorem Tryz.ok173 : fnB Tryz.cfg Tryz.digs 173 Go.Proofs.Tryz.f173 = true := by kernel_rfl
theorem Tryz.ok174 : fnB Tryz.cfg Tryz.digs 174 Go.Proofs.Tryz.f174 = true := by kernel_rfl
theorem Tryz.ok175 : fnB Tryz.cfg Tryz.digs 175 Go.Proofs.Tryz.f175 = true := by kernel_rfl
theorem Tryz.ok176 : fnB Tryz.cfg Tryz.digs 176 Go.Proofs.Tryz.f176 = true := by kernel_rfl
theorem Tryz.ok177 : fnB Tryz.cfg Tryz.digs 177 Go.Proofs.Tryz.f177 = true := by kernel_rfl
theorem Tryz.ok178 : fnB Tryz.cfg Tryz.digs 178 Go.Proofs.Tryz.f178 = true := by kernel_rfl
theorem Tryz.ok179 : fnB Tryz.cfg Tryz.digs 179 Go.Proofs.Tryz.f179 = true := by kernel_rfl
theorem Tryz.ok180 : fnB Tryz.cfg Tryz.digs 180 Go.Proofs.Tryz.f180 = true := by kernel_rfl
theorem Tryz.ok181 : fnB Tryz.cfg Tryz.digs 181 Go.Proofs.Tryz.f181 = true := by kernel_rfl
theorem Tryz.ok182 : fnB Tryz.cfg Tryz.digs 182 Go.Proofs.Tryz.f182 = true := by kernel_rfl
theorem Tryz.ok183 : fnB Tryz.cfg Tryz.digs 183 Go.Proofs.Tryz.f183 = true := by kernel_rfl
theorem Tryz.ok184 : fnB Tryz.cfg Tryz.digs 184 Go.Proofs.Tryz.f184 = true := by kernel_rfl
theorem Tryz.ok185 : fnB Tryz.cfg Tryz.digs 185 Go.Proofs.Tryz.f185 = true := by kernel_rfl
theorem Tryz.ok186 : fnB Tryz.cfg Tryz.digs 186 Go.Proofs.Tryz.f186 = true := by kernel_rfl
theorem Tryz.ok187 : fnB Tryz.cfg Tryz.digs 187 Go.Proofs.Tryz.f187 = true := by kernel_rfl
theorem Tryz.ok188 : fnB Tryz.cfg Tryz.digs 188 Go.Proofs.Tryz.f188 = true := by kernel_rfl
theorem Tryz.ok189 : fnB Tryz.cfg Tryz.digs 189 Go.Proofs.Tryz.f189 = true := by kernel_rfl
theorem Tryz.ok190 : fnB Tryz.cfg Tryz.digs 190 Go.Proofs.Tryz.f190 = true := by kernel_rfl
theorem Tryz.ok191 : fnB Tryz.cfg Tryz.digs 191 Go.Proofs.Tryz.f191 = true := by kernel_rfl
theorem Tryz.ok192 : fnB Tryz.cfg Tryz.digs 192 Go.Proofs.Tryz.f192 = true := by kernel_rfl
theorem Tryz.ok193 : fnB Tryz.cfg Tryz.digs 193 Go.Proofs.Tryz.f193 = true := by kernel_rfl
theorem Tryz.ok194 : fnB Tryz.cfg Tryz.digs 194 Go.Proofs.Tryz.f194 = true := by kernel_rfl
theorem Tryz.ok195 : fnB Tryz.cfg Tryz.digs 195 Go.Proofs.Tryz.f195 = true := by kernel_rfl
theorem Tryz.ok196 : fnB Tryz.cfg Tryz.digs 196 Go.Proofs.Tryz.f196 = true := by kernel_rfl
theorem Tryz.ok197 : fnB Tryz.cfg Tryz.digs 197 Go.Proofs.Tryz.f197 = true := by kernel_rfl
theorem Tryz.ok198 : fnB Tryz.cfg Tryz.digs 198 Go.Proofs.Tryz.f198 = true := by kernel_rfl
theorem Tryz.ok199 : fnB Tryz.cfg Tryz.digs 199 Go.Proofs.Tryz.f199 = true := by kernel_rfl
theorem Tryz.ok200 : fnB Tryz.cfg Tryz.digs 200 Go.Proofs.Tryz.f200 = true := by kernel_rfl
theorem Tryz.ok201 : fnB Tryz.cfg Tryz.digs 201 Go.Proofs.Tryz.f201 = true := by kernel_rfl
theorem Tryz.ok204 : fnB Tryz.cfg Tryz.digs 204 Go.Proofs.Tryz.f204 = true := by kernel_rfl
theorem Tryz.ok205 : fnB Tryz.cfg Tryz.digs 205 Go.Proofs.Tryz.f205 = true := by kernel_rfl
theorem Tryz.ok206 : fnB Tryz.cfg Tryz.digs 206 Go.Proofs.Tryz.f206 = true := by kernel_rfl
theorem Tryz.ok207 : fnB Tryz.cfg Tryz.digs 207 Go.Proofs.Tryz.f207 = true := by kernel_rfl
theorem Tryz.ok208 : fnB Tryz.cfg Tryz.digs 208 Go.Proofs.Tryz.f208 = true := by kernel_rfl
theorem Tryz.ok209 : fnB Tryz.cfg Tryz.digs 209 Go.Proofs.Tryz.f209 = true := by kernel_rfl
theorem Tryz.ok210 : fnB Tryz.cfg Tryz.digs 210 Go.Proofs.Tryz.f210 = true := by kernel_rfl
theorem Tryz.ok211 : fnB Tryz.cfg Tryz.digs 211 Go.Proofs.Tryz.f211 = true := by kernel_rfl
theorem Tryz.ok212 : fnB Tryz.cfg Tryz.digs 212 Go.Proofs.Tryz.f212 = true := by kernel_rfl
theorem Tryz.ok213 : fnB Tryz.cfg Tryz.digs 213 Go.Proofs.Tryz.f213 = true := by kernel_rfl
theorem Tryz.ok214 : fnB Tryz.cfg Tryz.digs 214 Go.Proofs.Tryz.f214 = true := by kernel_rfl
theorem Tryz.ok215 : fnB Tryz.cfg Tryz.digs 215 Go.Proofs.Tryz.f215 = true := by kernel_rfl
theorem Tryz.ok216 : fnB Tryz.cfg Tryz.digs 216 Go.Proofs.Tryz.f216 = true := by kernel_rfl
theorem Tryz.ok217 : fnB Tryz.cfg Tryz.digs 217 Go.Proofs.Tryz.f217 = true := by kernel_rfl
theorem Tryz.ok218 : fnB Tryz.cfg Tryz.digs 218 Go.Proofs.Tryz.f218 = true := by kernel_rfl
theorem Tryz.ok219 : fnB Tryz.cfg Tryz.digs 219 Go.Proofs.Tryz.f219 = true := by kernel_rfl
theorem Tryz.ok220 : fnB Tryz.cfg Tryz.digs 220 Go.Proofs.Tryz.f220 = true := by kernel_rfl
theorem Tryz.ok221 : fnB Tryz.cfg Tryz.digs 221 Go.Proofs.Tryz.f221 = true := by kernel_rfl
theorem Tryz.ok222 : fnB Tryz.cfg Tryz.digs 222 Go.Proofs.Tryz.f222 = true := by kernel_rfl
theorem Tryz.ok223 : fnB Tryz.cfg Tryz.digs 223 Go.Proofs.Tryz.f223 = true := by kernel_rfl
theorem Tryz.ok224 : fnB Tryz.cfg Tryz.digs 224 Go.Proofs.Tryz.f224 = true := by kernel_rfl
theorem Tryz.ok225 : fnB Tryz.cfg Tryz.digs 225 Go.Proofs.Tryz.f225 = true := by kernel_rfl
theorem Tryz.ok226 : fnB Tryz.cfg Tryz.digs 226 Go.Proofs.Tryz.f226 = true := by kernel_rfl
theorem Tryz.ok227 : fnB Tryz.cfg Tryz.digs 227 Go.Proofs.Tryz.f227 = true := by kernel_rfl
theorem Tryz.ok228 : fnB Tryz.cfg Tryz.digs 228 Go.Proofs.Tryz.f228 = true := by kernel_rfl
theorem Tryz.ok229 : fnB Tryz.cfg Tryz.digs 229 Go.Proofs.Tryz.f229 = true := by kernel_rfl
theorem Tryz.ok230 : fnB Tryz.cfg Tryz.digs 230 Go.Proofs.Tryz.f230 = true := by kernel_rfl
theorem Tryz.ok231 : fnB Tryz.cfg Tryz.digs 231 Go.Proofs.Tryz.f231 = true := by kernel_rfl
theorem Tryz.ok232 : fnB Tryz.cfg Tryz.digs 232 Go.Proofs.Tryz.f232 = true := by kernel_rfl
theorem Tryz.ok233 : fnB Tryz.cfg Tryz.digs 233 Go.Proofs.Tryz.f233 = true := by kernel_rfl
theorem Tryz.ok234 : fnB Tryz.cfg Tryz.digs 234 Go.Proofs.Tryz.f234 = true := by kernel_rfl
theorem Tryz.ok235 : fnB Tryz.cfg Tryz.digs 235 Go.Proofs.Tryz.f235 = true := by kernel_rfl
theorem Tryz.ok236 : fnB Tryz.cfg Tryz.digs 236 Go.Proofs.Tryz.f236 = true := by kernel_rfl
theorem Tryz.ok237 : fnB Tryz.cfg Tryz.digs 237 Go.Proofs.Tryz.f237 = true := by kernel_rfl
theorem Tryz.ok238 : fnB Tryz.cfg Tryz.digs 238 Go.Proofs.Tryz.f238 = true := by kernel_rfl
theorem Tryz.ok239 : fnB Tryz.cfg Tryz.digs 239 Go.Proofs.Tryz.f239 = true := by kernel_rfl
theorem Tryz.ok241 : fnB Tryz.cfg Tryz.digs 241 Go.Proofs.Tryz.f241 = true := by kernel_rfl
theorem Tryz.ok243 : fnB Tryz.cfg Tryz.digs 243 Go.Proofs.Tryz.f243 = true := by kernel_rfl
theorem Tryz.ok244 : fnB Tryz.cfg Tryz.digs 244 Go.Proofs.Tryz.f244 = true := by kernel_rfl
theorem Tryz.ok245 : fnB Tryz.cfg Tryz.digs 245 Go.Proofs.Tryz.f245 = true := by kernel_rfl
theorem Tryz.ok246 : fnB Tryz.cfg Tryz.digs 246 Go.Proofs.Tryz.f246 = true := by kernel_rfl
theorem Tryz.ok247 : fnB Tryz.cfg Tryz.digs 247 Go.Proofs.Tryz.f247 = true := by kernel_rfl
theorem Tryz.ok248 : fnB Tryz.cfg Tryz.digs 248 Go.Proofs.Tryz.f248 = true := by kernel_rfl
theorem Tryz.ok249 : fnB Tryz.cfg Tryz.digs 249 Go.Proofs.Tryz.f249 = true := by kernel_rfl
theorem Tryz.ok250 : fnB Tryz.cfg Tryz.digs 250 Go.Proofs.Tryz.f250 = true := by kernel_rfl
theorem Tryz.ok251 : fnB Tryz.cfg Tryz.digs 251 Go.Proofs.Tryz.f251 = true := by kernel_rfl
theorem Tryz.ok252 : fnB Tryz.cfg Tryz.digs 252 Go.Proofs.Tryz.f252 = true := by kernel_rfl
theorem Tryz.ok253 : fnB Tryz.cfg Tryz.digs 253 Go.Proofs.Tryz.f253 = true := by kernel_rfl
theorem Tryz.ok254 : fnB Tryz.cfg Tryz.digs 254 Go.Proofs.Tryz.f254 = true := by kernel_rfl
theorem Tryz.ok255 : fnB Tryz.cfg Tryz.digs 255 Go.Proofs.Tryz.f255 = true := by kernel_rfl
theorem Tryz.ok256 : fnB Tryz.cfg Tryz.digs 256 Go.Proofs.Tryz.f256 = true := by kernel_rfl
theorem Tryz.ok257 : fnB Tryz.cfg Tryz.digs 257 Go.Proofs.Tryz.f257 = true := by kernel_rfl
theorem Tryz.ok258 : fnB Tryz.cfg Tryz.digs 258 Go.Proofs.Tryz.f258 = true := by kernel_rfl
theorem Tryz.ok259 : fnB Tryz.cfg Tryz.digs 259 Go.Proofs.Tryz.f259 = true := by kernel_rfl
theorem Tryz.ok260 : fnB Tryz.cfg Tryz.digs 260 Go.Proofs.Tryz.f260 = true := by kernel_rfl
theorem Tryz.ok261 : fnB Tryz.cfg Tryz.digs 261 Go.Proofs.Tryz.f261 = true := by kernel_rfl
theorem Tryz.ok263 : fnB Tryz.cfg Tryz.digs 263 Go.Proofs.Tryz.f263 = true := by kernel_rfl
theorem Tryz.ok264 : fnB Tryz.cfg Tryz.digs 264 Go.Proofs.Tryz.f264 = true := by kernel_rfl
theorem Tryz.ok265 : fnB Tryz.cfg Tryz.digs 265 Go.Proofs.Tryz.f265 = true := by kernel_rfl
theorem Tryz.ok266 : fnB Tryz.cfg Tryz.digs 266 Go.Proofs.Tryz.f266 = true := by kernel_rfl
theorem Tryz.ok267 : fnB Tryz.cfg Tryz.digs 267 Go.Proofs.Tryz.f267 = true := by kernel_rfl
theorem Tryz.ok268 : fnB Tryz.cfg Tryz.digs 268 Go.Proofs.Tryz.f268 = true := by kernel_rfl
theorem Tryz.ok269 : fnB Tryz.cfg Tryz.digs 269 Go.Proofs.Tryz.f269 = true := by kernel_rfl
theorem Tryz.ok293 : fnB Tryz.cfg Tryz.digs 293 Go.Proofs.Tryz.f293 = true := by kernel_rfl
theorem Tryz.ok295 : fnB Tryz.cfg Tryz.digs 295 Go.Proofs.Tryz.f295 = true := by kernel_rfl
theorem Tryz.ok301 : fnB Tryz.cfg Tryz.digs 301 Go.Proofs.Tryz.f301 = true := by kernel_rfl
theorem Tryz.ok314 : fnB Tryz.cfg Tryz.digs 314 Go.Proofs.Tryz.f314 = true := by kernel_rfl
theorem Tryz.ok319 : fnB Tryz.cfg Tryz.digs 319 Go.Proofs.Tryz.f319 = true := by kernel_rfl
theorem Tryz.ok321 : fnB Tryz.cfg Tryz.digs 321 Go.Proofs.Tryz.f321 = true := by kernel_rfl
theorem Tryz.ok323 : fnB Tryz.cfg Tryz.digs 323 Go.Proofs.Tryz.f323 = true := by kernel_rfl
theorem Tryz.ok325 : fnB Tryz.cfg Tryz.digs 325 Go.Proofs.Tryz.f325 = true := by kernel_rfl
theorem Tryz.ok332 : fnB Tryz.cfg Tryz.digs 332 Go.Proofs.Tryz.f332 = true := by kernel_rfl
theorem Tryz.fnsOk : FnsOk Go.Proofs.Tryz.prog Tryz.cfg Tryz.digs Tryz.fns := ⟨Go.Proofs.Tryz.func2, Tryz.ok2, Go.Proofs.Tryz.func3, Tryz.ok3, Go.Proofs.Tryz.func4, Tryz.ok4, Go.Proofs.Tryz.func5, Tryz.ok5, Go.Proofs.Tryz.func6, Tryz.ok6, Go.Proofs.Tryz.func7, Tryz.ok7, Go.Proofs.Tryz.func8, Tryz.ok8, Go.Proofs.Tryz.func9, Tryz.ok9, Go.Proofs.Tryz.func10, Tryz.ok10, Go.Proofs.Tryz.func11, Tryz.ok11, Go.Proofs.Tryz.func12, Tryz.ok12, Go.Proofs.Tryz.func13, Tryz.ok13, Go.Proofs.Tryz.func14, Tryz.ok14, Go.Proofs.Tryz.func15, Tryz.ok15, Go.Proofs.Tryz.func16, Tryz.ok16, Go.Proofs.Tryz.func17, Tryz.ok17, Go.Proofs.Tryz.func18, Tryz.ok18, Go.Proofs.Tryz.func19, Tryz.ok19, Go.Proofs.Tryz.func20, Tryz.ok20, Go.Proofs.Tryz.func21, Tryz.ok21, Go.Proofs.Tryz.func22, Tryz.ok22, Go.Proofs.Tryz.func23, Tryz.ok23, Go.Proofs.Tryz.func24, Tryz.ok24, Go.Proofs.Tryz.func25, Tryz.ok25, Go.Proofs.Tryz.func26, Tryz.ok26, Go.Proofs.Tryz.func27, Tryz.ok27, Go.Proofs.Tryz.func28, Tryz.ok28, Go.Proofs.Tryz.func29, Tryz.ok29, Go.Proofs.Tryz.func30, Tryz.ok30, Go.Proofs.Tryz.func31, Tryz.ok31, Go.Proofs.Tryz.func32, Tryz.ok32, Go.Proofs.Tryz.func33, Tryz.ok33, Go.Proofs.Tryz.func34, Tryz.ok34, Go.Proofs.Tryz.func35, Tryz.ok35, Go.Proofs.Tryz.func36, Tryz.ok36, Go.Proofs.Tryz.func37, Tryz.ok37, Go.Proofs.Tryz.func38, Tryz.ok38, Go.Proofs.Tryz.func39, Tryz.ok39, Go.Proofs.Tryz.func40, Tryz.ok40, Go.Proofs.Tryz.func41, Tryz.ok41, Go.Proofs.Tryz.func42, Tryz.ok42, Go.Proofs.Tryz.func43, Tryz.ok43, Go.Proofs.Tryz.func44, Tryz.ok44, Go.Proofs.Tryz.func45, Tryz.ok45, Go.Proofs.Tryz.func46, Tryz.ok46, Go.Proofs.Tryz.func47, Tryz.ok47, Go.Proofs.Tryz.func48, Tryz.ok48, Go.Proofs.Tryz.func49, Tryz.ok49, Go.Proofs.Tryz.func50, Tryz.ok50, Go.Proofs.Tryz.func51, Tryz.ok51, Go.Proofs.Tryz.func52, Tryz.ok52, Go.Proofs.Tryz.func53, Tryz.ok53, Go.Proofs.Tryz.func54, Tryz.ok54, Go.Proofs.Tryz.func55, Tryz.ok55, Go.Proofs.Tryz.func56, Tryz.ok56, Go.Proofs.Tryz.func57, Tryz.ok57, Go.Proofs.Tryz.func58, Tryz.ok58, Go.Proofs.Tryz.func59, Tryz.ok59, Go.Proofs.Tryz.func60, Tryz.ok60, Go.Proofs.Tryz.func61, Tryz.ok61, Go.Proofs.Tryz.func62, Tryz.ok62, Go.Proofs.Tryz.func63, Tryz.ok63, Go.Proofs.Tryz.func64, Tryz.ok64, Go.Proofs.Tryz.func65, Tryz.ok65, Go.Proofs.Tryz.func66, Tryz.ok66, Go.Proofs.Tryz.func67, Tryz.ok67, Go.Proofs.Tryz.func68, Tryz.ok68, Go.Proofs.Tryz.func69, Tryz.ok69, Go.Proofs.Tryz.func70, Tryz.ok70, Go.Proofs.Tryz.func71, Tryz.ok71, Go.Proofs.Tryz.func72, Tryz.ok72, Go.Proofs.Tryz.func73, Tryz.ok73, Go.Proofs.Tryz.func74, Tryz.ok74, Go.Proofs.Tryz.func75, Tryz.ok75, Go.Proofs.Tryz.func76, Tryz.ok76, Go.Proofs.Tryz.func77, Tryz.ok77, Go.Proofs.Tryz.func78, Tryz.ok78, Go.Proofs.Tryz.func79, Tryz.ok79, Go.Proofs.Tryz.func80, Tryz.ok80, Go.Proofs.Tryz.func81, Tryz.ok81, Go.Proofs.Tryz.func82, Tryz.ok82, Go.Proofs.Tryz.func83, Tryz.ok83, Go.Proofs.Tryz.func84, Tryz.ok84, Go.Proofs.Tryz.func85, Tryz.ok85, Go.Proofs.Tryz.func86, Tryz.ok86, Go.Proofs.Tryz.func87, Tryz.ok87, Go.Proofs.Tryz.func88, Tryz.ok88, Go.Proofs.Tryz.func89, Tryz.ok89, Go.Proofs.Tryz.func90, Tryz.ok90, Go.Proofs.Tryz.func91, Tryz.ok91, Go.Proofs.Tryz.func92, Tryz.ok92, Go.Proofs.Tryz.func93, Tryz.ok93, Go.Proofs.Tryz.func94, Tryz.ok94, Go.Proofs.Tryz.func95, Tryz.ok95, Go.Proofs.Tryz.func96, Tryz.ok96, Go.Proofs.Tryz.func97, Tryz.ok97, Go.Proofs.Tryz.func98, Tryz.ok98, Go.Proofs.Tryz.func99, Tryz.ok99, Go.Proofs.Tryz.func100, Tryz.ok100, Go.Proofs.Tryz.func101, Tryz.ok101, Go.Proofs.Tryz.func102, Tryz.ok102, Go.Proofs.Tryz.func103, Tryz.ok103, Go.Proofs.Tryz.func104, Tryz.ok104, Go.Proofs.Tryz.func105, Tryz.ok105, Go.Proofs.Tryz.func106, Tryz.ok106, Go.Proofs.Tryz.func107, Tryz.ok107, Go.Proofs.Tryz.func108, Tryz.ok108, Go.Proofs.Tryz.func109, Tryz.ok109, Go.Proofs.Tryz.func110, Tryz.ok110, Go.Proofs.Tryz.func111, Tryz.ok111, Go.Proofs.Tryz.func112, Tryz.ok112, Go.Proofs.Tryz.func113, Tryz.ok113, Go.Proofs.Tryz.func114, Tryz.ok114, Go.Proofs.Tryz.func115, Tryz.ok115, Go.Proofs.Tryz.func116, Tryz.ok116, Go.Proofs.Tryz.func117, Tryz.ok117, Go.Proofs.Tryz.func118, Tryz.ok118, Go.Proofs.Tryz.func119, Tryz.ok119, Go.Proofs.Tryz.func120, Tryz.ok120, Go.Proofs.Tryz.func121, Tryz.ok121, Go.Proofs.Tryz.func122, Tryz.ok122, Go.Proofs.Tryz.func123, Tryz.ok123, Go.Proofs.Tryz.func124, Tryz.ok124, Go.Proofs.Tryz.func125, Tryz.ok125, Go.Proofs.Tryz.func126, Tryz.ok126, Go.Proofs.Tryz.func127, Tryz.ok127, Go.Proofs.Tryz.func128, Tryz.ok128, Go.Proofs.Tryz.func129, Tryz.ok129, Go.Proofs.Tryz.func130, Tryz.ok130, Go.Proofs.Tryz.func131, Tryz.ok131, Go.Proofs.Tryz.func132, Tryz.ok132, Go.Proofs.Tryz.func133, Tryz.ok133, Go.Proofs.Tryz.func134, Tryz.ok134, Go.Proofs.Tryz.func135, Tryz.ok135, Go.Proofs.Tryz.func136, Tryz.ok136, Go.Proofs.Tryz.func137, Tryz.ok137, Go.Proofs.Tryz.func138, Tryz.ok138, Go.Proofs.Tryz.func139, Tryz.ok139, Go.Proofs.Tryz.func140, Tryz.ok140, Go.Proofs.Tryz.func141, Tryz.ok141, Go.Proofs.Tryz.func142, Tryz.ok142, Go.Proofs.Tryz.func143, Tryz.ok143, Go.Proofs.Tryz.func144, Tryz.ok144, Go.Proofs.Tryz.func145, Tryz.ok145, Go.Proofs.Tryz.func146, Tryz.ok146, Go.Proofs.Tryz.func147, Tryz.ok147, Go.Proofs.Tryz.func148, Tryz.ok148, Go.Proofs.Tryz.func149, Tryz.ok149, Go.Proofs.Tryz.func150, Tryz.ok150, Go.Proofs.Tryz.func151, Tryz.ok151, Go.Proofs.Tryz.func152, Tryz.ok152, Go.Proofs.Tryz.func156, Tryz.ok156, Go.Proofs.Tryz.func157, Tryz.ok157, Go.Proofs.Tryz.func158, Tryz.ok158, Go.Proofs.Tryz.func159, Tryz.ok159, Go.Proofs.Tryz.func160, Tryz.ok160, Go.Proofs.Tryz.func161, Tryz.ok161, Go.Proofs.Tryz.func162, Tryz.ok162, Go.Proofs.Tryz.func163, Tryz.ok163, Go.Proofs.Tryz.func164, Tryz.ok164, Go.Proofs.Tryz.func165, Tryz.ok165, Go.Proofs.Tryz.func166, Tryz.ok166, Go.Proofs.Tryz.func168, Tryz.ok168, Go.Proofs.Tryz.func169, Tryz.ok169, Go.Proofs.Tryz.func170, Tryz.ok170, Go.Proofs.Tryz.func171, Tryz.ok171, Go.Proofs.Tryz.func172, Tryz.ok172, Go.Proofs.Tryz.func173, Tryz.ok173, Go.Proofs.Tryz.func174, Tryz.ok174, Go.Proofs.Tryz.func175, Tryz.ok175, Go.Proofs.Tryz.func176, Tryz.ok176, Go.Proofs.Tryz.func177, Tryz.ok177, Go.Proofs.Tryz.func178, Tryz.ok178, Go.Proofs.Tryz.func179, Tryz.ok179, Go.Proofs.Tryz.func180, Tryz.ok180, Go.Proofs.Tryz.func181, Tryz.ok181, Go.Proofs.Tryz.func182, Tryz.ok182, Go.Proofs.Tryz.func183, Tryz.ok183, Go.Proofs.Tryz.func184, Tryz.ok184, Go.Proofs.Tryz.func185, Tryz.ok185, Go.Proofs.Tryz.func186, Tryz.ok186, Go.Proofs.Tryz.func187, Tryz.ok187, Go.Proofs.Tryz.func188, Tryz.ok188, Go.Proofs.Tryz.func189, Tryz.ok189, Go.Proofs.Tryz.func190, Tryz.ok190, Go.Proofs.Tryz.func191, Tryz.ok191, Go.Proofs.Tryz.func192, Tryz.ok192, Go.Proofs.Tryz.func193, Tryz.ok193, Go.Proofs.Tryz.func194, Tryz.ok194, Go.Proofs.Tryz.func195, Tryz.ok195, Go.Proofs.Tryz.func196, Tryz.ok196, Go.Proofs.Tryz.func197, Tryz.ok197, Go.Proofs.Tryz.func198, Tryz.ok198, Go.Proofs.Tryz.func199, Tryz.ok199, Go.Proofs.Tryz.func200, Tryz.ok200, Go.Proofs.Tryz.func201, Tryz.ok201, Go.Proofs.Tryz.func204, Tryz.ok204, Go.Proofs.Tryz.func205, Tryz.ok205, Go.Proofs.Tryz.func206, Tryz.ok206, Go.Proofs.Tryz.func207, Tryz.ok207, Go.Proofs.Tryz.func208, Tryz.ok208, Go.Proofs.Tryz.func209, Tryz.ok209, Go.Proofs.Tryz.func210, Tryz.ok210, Go.Proofs.Tryz.func211, Tryz.ok211, Go.Proofs.Tryz.func212, Tryz.ok212, Go.Proofs.Tryz.func213, Tryz.ok213, Go.Proofs.Tryz.func214, Tryz.ok214, Go.Proofs.Tryz.func215, Tryz.ok215, Go.Proofs.Tryz.func216, Tryz.ok216, Go.Proofs.Tryz.func217, Tryz.ok217, Go.Proofs.Tryz.func218, Tryz.ok218, Go.Proofs.Tryz.func219, Tryz.ok219, Go.Proofs.Tryz.func220, Tryz.ok220, Go.Proofs.Tryz.func221, Tryz.ok221, Go.Proofs.Tryz.func222, Tryz.ok222, Go.Proofs.Tryz.func223, Tryz.ok223, Go.Proofs.Tryz.func224, Tryz.ok224, Go.Proofs.Tryz.func225, Tryz.ok225, Go.Proofs.Tryz.func226, Tryz.ok226, Go.Proofs.Tryz.func227, Tryz.ok227, Go.Proofs.Tryz.func228, Tryz.ok228, Go.Proofs.Tryz.func229, Tryz.ok229, Go.Proofs.Tryz.func230, Tryz.ok230, Go.Proofs.Tryz.func231, Tryz.ok231, Go.Proofs.Tryz.func232, Tryz.ok232, Go.Proofs.Tryz.func233, Tryz.ok233, Go.Proofs.Tryz.func234, Tryz.ok234, Go.Proofs.Tryz.func235, Tryz.ok235, Go.Proofs.Tryz.func236, Tryz.ok236, Go.Proofs.Tryz.func237, Tryz.ok237, Go.Proofs.Tryz.func238, Tryz.ok238, Go.Proofs.Tryz.func239, Tryz.ok239, Go.Proofs.Tryz.func241, Tryz.ok241, Go.Proofs.Tryz.func243, Tryz.ok243, Go.Proofs.Tryz.func244, Tryz.ok244, Go.Proofs.Tryz.func245, Tryz.ok245, Go.Proofs.Tryz.func246, Tryz.ok246, Go.Proofs.Tryz.func247, Tryz.ok247, Go.Proofs.Tryz.func248, Tryz.ok248, Go.Proofs.Tryz.func249, Tryz.ok249, Go.Proofs.Tryz.func250, Tryz.ok250, Go.Proofs.Tryz.func251, Tryz.ok251, Go.Proofs.Tryz.func252, Tryz.ok252, Go.Proofs.Tryz.func253, Tryz.ok253, Go.Proofs.Tryz.func254, Tryz.ok254, Go.Proofs.Tryz.func255, Tryz.ok255, Go.Proofs.Tryz.func256, Tryz.ok256, Go.Proofs.Tryz.func257, Tryz.ok257, Go.Proofs.Tryz.func258, Tryz.ok258, Go.Proofs.Tryz.func259, Tryz.ok259, Go.Proofs.Tryz.func260, Tryz.ok260, Go.Proofs.Tryz.func261, Tryz.ok261, Go.Proofs.Tryz.func263, Tryz.ok263, Go.Proofs.Tryz.func264, Tryz.ok264, Go.Proofs.Tryz.func265, Tryz.ok265, Go.Proofs.Tryz.func266, Tryz.ok266, Go.Proofs.Tryz.func267, Tryz.ok267, Go.Proofs.Tryz.func268, Tryz.ok268, Go.Proofs.Tryz.func269, Tryz.ok269, Go.Proofs.Tryz.func293, Tryz.ok293, Go.Proofs.Tryz.func295, Tryz.ok295, Go.Proofs.Tryz.func301, Tryz.ok301, Go.Proofs.Tryz.func314, Tryz.ok314, Go.Proofs.Tryz.func319, Tryz.ok319, Go.Proofs.Tryz.func321, Tryz.ok321, Go.Proofs.Tryz.func323, Tryz.ok323, Go.Proofs.Tryz.func325, Tryz.ok325, Go.Proofs.Tryz.func332, Tryz.ok332, trivial⟩
end Go.Ab
