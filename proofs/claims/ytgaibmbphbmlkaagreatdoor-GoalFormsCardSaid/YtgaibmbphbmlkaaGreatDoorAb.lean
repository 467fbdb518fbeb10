/- The seat's program: its types, plans, what lives at loops' heads; the context. Printed by mkseat.py. -/
import Derived.Test.YtgaibmbphbmlkaaGreatDoorAbSeat
import Derived.Test.YtgaibmbphbmlkaaGreatDoorProg
import Derived.KernelRfl
namespace Go.Ab
open Go Go.Proofs
def Tryz.tab : Tab := [
  (0, ⟨1, false, .other, [], none, 0, false⟩),
  (1, ⟨1, false, .other, [], (some (.nilf)), 8, false⟩),
  (2, ⟨1, false, (.int .i64), [], (some (.int .i64 0)), 8, true⟩),
  (3, ⟨1, false, (.int .i64), [], (some (.int .i64 0)), 8, true⟩),
  (4, ⟨1, false, .bool, [], (some (.bool false)), 1, true⟩),
  (5, ⟨1, false, (.int .u8), [], (some (.int .u8 0)), 1, true⟩),
  (6, ⟨1, false, (.int .u8), [], (some (.int .u8 0)), 1, true⟩),
  (7, ⟨4, true, .struct, [(0, 2), (1, 3), (2, 4), (3, 6)], (some (.agg [.int .i64 0, .int .i64 0, .bool false, .int .u8 0])), 24, true⟩),
  (8, ⟨4, true, .struct, [(0, 2), (1, 3), (2, 4), (3, 6)], (some (.agg [.int .i64 0, .int .i64 0, .bool false, .int .u8 0])), 24, true⟩),
  (9, ⟨1, false, .string, [], (some (.str [])), 16, true⟩),
  (10, ⟨1, false, .string, [], (some (.str [])), 16, true⟩),
  (11, ⟨1, false, .string, [], (some (.str [])), 16, true⟩),
  (12, ⟨1, false, (.int .u64), [], (some (.int .u64 0)), 8, true⟩),
  (13, ⟨2, true, .struct, [(0, 9), (1, 12)], (some (.agg [.str [], .int .u64 0])), 24, false⟩),
  (14, ⟨2, true, .struct, [(0, 9), (1, 12)], (some (.agg [.str [], .int .u64 0])), 24, false⟩),
  (15, ⟨1, false, (.pointer 422), [], (some (.nilp)), 8, true⟩),
  (16, ⟨1, false, (.pointer 425), [], (some (.nilp)), 8, true⟩),
  (17, ⟨1, false, (.pointer 433), [], (some (.nilp)), 8, true⟩),
  (18, ⟨1, true, .struct, [(0, 17)], (some (.agg [.nilp])), 8, false⟩),
  (19, ⟨1, true, .struct, [(0, 17)], (some (.agg [.nilp])), 8, false⟩),
  (20, ⟨1, false, .iface, [], (some (.nili)), 16, true⟩),
  (21, ⟨1, false, (.int .i32), [], (some (.int .i32 0)), 4, true⟩),
  (22, ⟨1, false, .other, [], (some (.nilf)), 8, false⟩),
  (23, ⟨3, true, .struct, [(0, 3), (1, 3), (2, 3)], (some (.agg [.int .i64 0, .int .i64 0, .int .i64 0])), 24, true⟩),
  (24, ⟨3, true, .struct, [(0, 3), (1, 3), (2, 3)], (some (.agg [.int .i64 0, .int .i64 0, .int .i64 0])), 24, true⟩),
  (25, ⟨4, true, .struct, [(0, 3), (1, 24)], (some (.agg [.int .i64 0, .int .i64 0, .int .i64 0, .int .i64 0])), 32, true⟩),
  (26, ⟨4, true, .struct, [(0, 3), (1, 24)], (some (.agg [.int .i64 0, .int .i64 0, .int .i64 0, .int .i64 0])), 32, true⟩),
  (27, ⟨1, false, (.slice 26), [], (some (.nils)), 24, false⟩),
  (28, ⟨1, false, (.slice 3), [], (some (.nils)), 24, false⟩),
  (29, ⟨5, true, .struct, [(0, 3), (1, 3), (2, 9), (3, 27), (4, 28)], (some (.agg [.int .i64 0, .int .i64 0, .str [], .nils, .nils])), 80, false⟩),
  (30, ⟨5, true, .struct, [(0, 3), (1, 3), (2, 9), (3, 27), (4, 28)], (some (.agg [.int .i64 0, .int .i64 0, .str [], .nils, .nils])), 80, false⟩),
  (31, ⟨1, false, (.slice 30), [], (some (.nils)), 24, false⟩),
  (32, ⟨1, false, .other, [], (some (.nilf)), 8, false⟩),
  (33, ⟨1, false, .other, [], (some (.nilf)), 8, false⟩),
  (34, ⟨1, false, (.slice 51), [], (some (.nils)), 24, false⟩),
  (35, ⟨1, false, (.slice 46), [], (some (.nils)), 24, false⟩),
  (36, ⟨1, false, (.slice 103), [], (some (.nils)), 24, false⟩),
  (37, ⟨1, false, (.slice 42), [], (some (.nils)), 24, false⟩),
  (38, ⟨6, true, .struct, [(0, 3), (1, 3), (2, 34), (3, 35), (4, 36), (5, 37)], (some (.agg [.int .i64 0, .int .i64 0, .nils, .nils, .nils, .nils])), 112, false⟩),
  (39, ⟨6, true, .struct, [(0, 3), (1, 3), (2, 34), (3, 35), (4, 36), (5, 37)], (some (.agg [.int .i64 0, .int .i64 0, .nils, .nils, .nils, .nils])), 112, false⟩),
  (40, ⟨1, false, (.slice 207), [], (some (.nils)), 24, false⟩),
  (41, ⟨8, true, .struct, [(0, 3), (1, 24), (4, 4), (5, 40), (6, 9), (7, 9)], (some (.agg [.int .i64 0, .int .i64 0, .int .i64 0, .int .i64 0, .bool false, .nils, .str [], .str []])), 96, false⟩),
  (42, ⟨8, true, .struct, [(0, 3), (1, 24), (4, 4), (5, 40), (6, 9), (7, 9)], (some (.agg [.int .i64 0, .int .i64 0, .int .i64 0, .int .i64 0, .bool false, .nils, .str [], .str []])), 96, false⟩),
  (43, ⟨1, false, .other, [], none, 0, false⟩),
  (44, ⟨1, false, .other, [], (some (.nilf)), 8, false⟩),
  (45, ⟨7, true, .struct, [(0, 3), (1, 3), (2, 3), (3, 3), (4, 3), (5, 37), (6, 31)], (some (.agg [.int .i64 0, .int .i64 0, .int .i64 0, .int .i64 0, .int .i64 0, .nils, .nils])), 88, false⟩),
  (46, ⟨7, true, .struct, [(0, 3), (1, 3), (2, 3), (3, 3), (4, 3), (5, 37), (6, 31)], (some (.agg [.int .i64 0, .int .i64 0, .int .i64 0, .int .i64 0, .int .i64 0, .nils, .nils])), 88, false⟩),
  (47, ⟨1, false, .other, [], (some (.nilf)), 8, false⟩),
  (48, ⟨1, false, .other, [], (some (.nilf)), 8, false⟩),
  (49, ⟨1, false, .other, [], none, 0, false⟩),
  (50, ⟨1, false, .other, [], (some (.nilf)), 8, false⟩),
  (51, ⟨2, true, (.array 2 3), [(0, 3), (1, 3)], (some (.agg [.int .i64 0, .int .i64 0])), 16, true⟩),
  (52, ⟨8, true, .struct, [(0, 3), (1, 3), (2, 3), (3, 3), (4, 3), (5, 40), (6, 9), (7, 9)], (some (.agg [.int .i64 0, .int .i64 0, .int .i64 0, .int .i64 0, .int .i64 0, .nils, .str [], .str []])), 96, false⟩),
  (53, ⟨8, true, .struct, [(0, 3), (1, 3), (2, 3), (3, 3), (4, 3), (5, 40), (6, 9), (7, 9)], (some (.agg [.int .i64 0, .int .i64 0, .int .i64 0, .int .i64 0, .int .i64 0, .nils, .str [], .str []])), 96, false⟩),
  (54, ⟨1, false, (.slice 53), [], (some (.nils)), 24, false⟩),
  (55, ⟨1, false, (.int .i64), [], (some (.int .i64 0)), 8, true⟩),
  (56, ⟨1, false, .other, [], none, 0, false⟩),
  (57, ⟨1, false, .other, [], (some (.nilf)), 8, false⟩),
  (58, ⟨1, false, .other, [], (some (.nilf)), 8, false⟩),
  (59, ⟨1, false, .other, [], (some (.nilf)), 8, false⟩),
  (60, ⟨1, false, .other, [], (some (.nilf)), 8, false⟩),
  (61, ⟨1, false, .other, [], (some (.nilf)), 8, false⟩),
  (62, ⟨1, false, .other, [], (some (.nilf)), 8, false⟩),
  (63, ⟨1, false, .other, [], none, 0, false⟩),
  (64, ⟨1, false, .other, [], (some (.nilf)), 8, false⟩),
  (65, ⟨1, false, .other, [], none, 0, false⟩),
  (66, ⟨1, false, .other, [], (some (.nilf)), 8, false⟩),
  (67, ⟨1, false, .other, [], none, 0, false⟩),
  (68, ⟨1, false, .other, [], (some (.nilf)), 8, false⟩),
  (69, ⟨1, false, .other, [], (some (.nilf)), 8, false⟩),
  (70, ⟨1, false, .other, [], none, 0, false⟩),
  (71, ⟨1, false, .other, [], (some (.nilf)), 8, false⟩),
  (72, ⟨1, false, .other, [], (some (.nilf)), 8, false⟩),
  (73, ⟨1, false, (.slice 55), [], (some (.nils)), 24, false⟩),
  (74, ⟨1, false, .other, [], (some (.nilf)), 8, false⟩),
  (75, ⟨1, false, .other, [], (some (.nilf)), 8, false⟩),
  (76, ⟨1, false, .other, [], (some (.nilf)), 8, false⟩),
  (77, ⟨1, false, (.slice 79), [], (some (.nils)), 24, false⟩),
  (78, ⟨6, true, .struct, [(0, 3), (1, 3), (2, 3), (3, 3), (4, 9), (5, 77)], (some (.agg [.int .i64 0, .int .i64 0, .int .i64 0, .int .i64 0, .str [], .nils])), 72, false⟩),
  (79, ⟨6, true, .struct, [(0, 3), (1, 3), (2, 3), (3, 3), (4, 9), (5, 77)], (some (.agg [.int .i64 0, .int .i64 0, .int .i64 0, .int .i64 0, .str [], .nils])), 72, false⟩),
  (80, ⟨1, false, .other, [], none, 0, false⟩),
  (81, ⟨1, false, .other, [], (some (.nilf)), 8, false⟩),
  (82, ⟨1, false, .other, [], (some (.nilf)), 8, false⟩),
  (83, ⟨1, false, .other, [], (some (.nilf)), 8, false⟩),
  (84, ⟨4, true, .struct, [(0, 3), (1, 3), (2, 31), (3, 37)], (some (.agg [.int .i64 0, .int .i64 0, .nils, .nils])), 64, false⟩),
  (85, ⟨4, true, .struct, [(0, 3), (1, 3), (2, 31), (3, 37)], (some (.agg [.int .i64 0, .int .i64 0, .nils, .nils])), 64, false⟩),
  (86, ⟨1, false, .other, [], none, 0, false⟩),
  (87, ⟨1, false, .other, [], (some (.nilf)), 8, false⟩),
  (88, ⟨1, false, .other, [], (some (.nilf)), 8, false⟩),
  (89, ⟨1, false, .other, [], (some (.nilf)), 8, false⟩),
  (90, ⟨1, false, .other, [], (some (.nilf)), 8, false⟩),
  (91, ⟨1, false, .other, [], (some (.nilf)), 8, false⟩),
  (92, ⟨1, false, .other, [], (some (.nilf)), 8, false⟩),
  (93, ⟨1, false, .other, [], (some (.nilf)), 8, false⟩),
  (94, ⟨1, false, .other, [], (some (.nilf)), 8, false⟩),
  (95, ⟨1, false, .other, [], (some (.nilf)), 8, false⟩),
  (96, ⟨1, false, .other, [], (some (.nilf)), 8, false⟩),
  (97, ⟨1, false, (.slice 5), [], (some (.nils)), 24, false⟩),
  (98, ⟨1, false, .other, [], none, 0, false⟩),
  (99, ⟨1, false, .other, [], (some (.nilf)), 8, false⟩),
  (100, ⟨1, false, .other, [], none, 0, false⟩),
  (101, ⟨1, false, .other, [], (some (.nilf)), 8, false⟩),
  (102, ⟨4, true, .struct, [(0, 3), (1, 3), (2, 9), (3, 4)], (some (.agg [.int .i64 0, .int .i64 0, .str [], .bool false])), 40, true⟩),
  (103, ⟨4, true, .struct, [(0, 3), (1, 3), (2, 9), (3, 4)], (some (.agg [.int .i64 0, .int .i64 0, .str [], .bool false])), 40, true⟩),
  (104, ⟨1, false, .other, [], none, 0, false⟩),
  (105, ⟨1, false, .other, [], (some (.nilf)), 8, false⟩),
  (106, ⟨1, false, .other, [], (some (.nilf)), 8, false⟩),
  (107, ⟨1, false, .other, [], (some (.nilf)), 8, false⟩),
  (108, ⟨1, false, .other, [], (some (.nilf)), 8, false⟩),
  (109, ⟨1, false, .other, [], (some (.nilf)), 8, false⟩),
  (110, ⟨1, false, .other, [], (some (.nilf)), 8, false⟩),
  (111, ⟨1, false, .other, [], (some (.nilf)), 8, false⟩),
  (112, ⟨1, false, .other, [], (some (.nilf)), 8, false⟩),
  (113, ⟨1, false, .other, [], (some (.nilf)), 8, false⟩),
  (114, ⟨1, false, .other, [], (some (.nilf)), 8, false⟩),
  (115, ⟨1, false, .other, [], (some (.nilf)), 8, false⟩),
  (116, ⟨1, false, .other, [], (some (.nilf)), 8, false⟩),
  (117, ⟨1, false, .other, [], (some (.nilf)), 8, false⟩),
  (118, ⟨1, false, .other, [], (some (.nilf)), 8, false⟩),
  (119, ⟨1, false, .other, [], (some (.nilf)), 8, false⟩),
  (120, ⟨1, false, .other, [], (some (.nilf)), 8, false⟩),
  (121, ⟨1, false, .other, [], (some (.nilf)), 8, false⟩),
  (122, ⟨1, false, .iface, [], (some (.nili)), 16, true⟩),
  (123, ⟨1, false, .iface, [], (some (.nili)), 16, true⟩),
  (124, ⟨1, false, .other, [], (some (.nilf)), 8, false⟩),
  (125, ⟨1, false, .other, [], (some (.nilf)), 8, false⟩),
  (126, ⟨1, false, .other, [], none, 0, false⟩),
  (127, ⟨1, false, .other, [], (some (.nilf)), 8, false⟩),
  (128, ⟨1, false, (.pointer 30), [], (some (.nilp)), 8, true⟩),
  (129, ⟨1, false, .other, [], (some (.nilf)), 8, false⟩),
  (130, ⟨1, false, .other, [], none, 0, false⟩),
  (131, ⟨1, false, .other, [], (some (.nilf)), 8, false⟩),
  (132, ⟨1, false, .other, [], (some (.nilf)), 8, false⟩),
  (133, ⟨1, false, .other, [], (some (.nilf)), 8, false⟩),
  (134, ⟨1, true, .struct, [(0, 55)], (some (.agg [.int .i64 0])), 8, true⟩),
  (135, ⟨1, true, .struct, [(0, 55)], (some (.agg [.int .i64 0])), 8, true⟩),
  (136, ⟨1, false, .other, [], (some (.nilf)), 8, false⟩),
  (137, ⟨1, false, .other, [], (some (.nilf)), 8, false⟩),
  (138, ⟨1, false, .other, [], (some (.nilf)), 8, false⟩),
  (139, ⟨1, false, (.pointer 141), [], (some (.nilp)), 8, true⟩),
  (140, ⟨6, true, .struct, [(0, 39)], (some (.agg [.int .i64 0, .int .i64 0, .nils, .nils, .nils, .nils])), 112, false⟩),
  (141, ⟨6, true, .struct, [(0, 39)], (some (.agg [.int .i64 0, .int .i64 0, .nils, .nils, .nils, .nils])), 112, false⟩),
  (142, ⟨1, false, .other, [], (some (.nilf)), 8, false⟩),
  (143, ⟨1, true, .struct, [(0, 55)], (some (.agg [.int .i64 0])), 8, true⟩),
  (144, ⟨1, true, .struct, [(0, 55)], (some (.agg [.int .i64 0])), 8, true⟩),
  (145, ⟨1, false, .other, [], (some (.nilf)), 8, false⟩),
  (146, ⟨1, false, (.pointer 144), [], (some (.nilp)), 8, true⟩),
  (147, ⟨1, false, .other, [], (some (.nilf)), 8, false⟩),
  (148, ⟨1, false, .other, [], (some (.nilf)), 8, false⟩),
  (149, ⟨1, false, .other, [], (some (.nilf)), 8, false⟩),
  (150, ⟨1, false, .other, [], (some (.nilf)), 8, false⟩),
  (151, ⟨1, false, .other, [], (some (.nilf)), 8, false⟩),
  (152, ⟨1, false, .other, [], (some (.nilf)), 8, false⟩),
  (153, ⟨1, false, (.slice 246), [], (some (.nils)), 24, false⟩),
  (154, ⟨1, false, .other, [], none, 0, false⟩),
  (155, ⟨1, false, .other, [], (some (.nilf)), 8, false⟩),
  (156, ⟨1, false, .other, [], none, 0, false⟩),
  (157, ⟨1, false, (.pointer 159), [], (some (.nilp)), 8, true⟩),
  (158, ⟨2, true, .struct, [(0, 153), (1, 3)], (some (.agg [.nils, .int .i64 0])), 32, false⟩),
  (159, ⟨2, true, .struct, [(0, 153), (1, 3)], (some (.agg [.nils, .int .i64 0])), 32, false⟩),
  (160, ⟨1, false, .other, [], (some (.nilf)), 8, false⟩),
  (161, ⟨1, true, .struct, [(0, 3)], (some (.agg [.int .i64 0])), 8, true⟩),
  (162, ⟨1, true, .struct, [(0, 3)], (some (.agg [.int .i64 0])), 8, true⟩),
  (163, ⟨1, false, (.pointer 162), [], (some (.nilp)), 8, true⟩),
  (164, ⟨1, false, .other, [], (some (.nilf)), 8, false⟩),
  (165, ⟨1, false, .other, [], (some (.nilf)), 8, false⟩),
  (166, ⟨1, false, .other, [], (some (.nilf)), 8, false⟩),
  (167, ⟨0, true, .struct, [], (some (.agg [])), 0, true⟩),
  (168, ⟨0, true, .struct, [], (some (.agg [])), 0, true⟩),
  (169, ⟨1, false, .other, [], (some (.nilf)), 8, false⟩),
  (170, ⟨1, false, .other, [], (some (.nilf)), 8, false⟩),
  (171, ⟨1, false, .other, [], (some (.nilf)), 8, false⟩),
  (172, ⟨1, false, .other, [], (some (.nilf)), 8, false⟩),
  (173, ⟨1, false, .other, [], (some (.nilf)), 8, false⟩),
  (174, ⟨1, false, .other, [], (some (.nilf)), 8, false⟩),
  (175, ⟨1, false, .other, [], (some (.nilf)), 8, false⟩),
  (176, ⟨1, false, .other, [], (some (.nilf)), 8, false⟩),
  (177, ⟨1, false, .other, [], (some (.nilf)), 8, false⟩),
  (178, ⟨1, false, .other, [], (some (.nilf)), 8, false⟩),
  (179, ⟨1, false, .other, [], (some (.nilf)), 8, false⟩),
  (180, ⟨1, false, (.int .u16), [], (some (.int .u16 0)), 2, true⟩),
  (181, ⟨1, false, .other, [], (some (.nilf)), 8, false⟩),
  (182, ⟨1, false, (.int .u64), [], (some (.int .u64 0)), 8, true⟩),
  (183, ⟨1, false, (.pointer 185), [], (some (.nilp)), 8, true⟩),
  (184, ⟨2, true, .struct, [(0, 97), (1, 4)], (some (.agg [.nils, .bool false])), 32, false⟩),
  (185, ⟨2, true, .struct, [(0, 97), (1, 4)], (some (.agg [.nils, .bool false])), 32, false⟩),
  (186, ⟨1, false, .other, [], (some (.nilf)), 8, false⟩),
  (187, ⟨1, false, .other, [], (some (.nilf)), 8, false⟩),
  (188, ⟨1, false, .other, [], none, 0, false⟩),
  (189, ⟨1, false, .other, [], (some (.nilf)), 8, false⟩),
  (190, ⟨1, false, .other, [], (some (.nilf)), 8, false⟩),
  (191, ⟨1, false, .other, [], (some (.nilf)), 8, false⟩),
  (192, ⟨1, false, .other, [], (some (.nilf)), 8, false⟩),
  (193, ⟨1, false, .other, [], (some (.nilf)), 8, false⟩),
  (194, ⟨1, false, .other, [], (some (.nilf)), 8, false⟩),
  (195, ⟨1, false, .other, [], (some (.nilf)), 8, false⟩),
  (196, ⟨1, false, .other, [], (some (.nilf)), 8, false⟩),
  (197, ⟨1, false, .other, [], (some (.nilf)), 8, false⟩),
  (198, ⟨1, false, .other, [], (some (.nilf)), 8, false⟩),
  (199, ⟨1, false, .other, [], (some (.nilf)), 8, false⟩),
  (200, ⟨1, false, .other, [], (some (.nilf)), 8, false⟩),
  (201, ⟨1, false, .other, [], (some (.nilf)), 8, false⟩),
  (202, ⟨1, false, .other, [], (some (.nilf)), 8, false⟩),
  (203, ⟨1, false, .other, [], (some (.nilf)), 8, false⟩),
  (204, ⟨1, false, .other, [], (some (.nilf)), 8, false⟩),
  (205, ⟨1, false, .other, [], (some (.nilf)), 8, false⟩),
  (206, ⟨2, true, .struct, [(0, 3), (1, 3)], (some (.agg [.int .i64 0, .int .i64 0])), 16, true⟩),
  (207, ⟨2, true, .struct, [(0, 3), (1, 3)], (some (.agg [.int .i64 0, .int .i64 0])), 16, true⟩),
  (208, ⟨1, false, .other, [], (some (.nilf)), 8, false⟩),
  (209, ⟨1, false, .other, [], (some (.nilf)), 8, false⟩),
  (210, ⟨2, true, .struct, [(0, 9), (1, 123)], (some (.agg [.str [], .nili])), 32, false⟩),
  (211, ⟨2, true, .struct, [(0, 9), (1, 123)], (some (.agg [.str [], .nili])), 32, false⟩),
  (212, ⟨1, false, (.pointer 135), [], (some (.nilp)), 8, true⟩),
  (213, ⟨1, false, .other, [], (some (.nilf)), 8, false⟩),
  (214, ⟨1, false, .other, [], (some (.nilf)), 8, false⟩),
  (215, ⟨1, false, .other, [], (some (.nilf)), 8, false⟩),
  (216, ⟨1, false, .other, [], (some (.nilf)), 8, false⟩),
  (217, ⟨1, false, .other, [], none, 0, false⟩),
  (218, ⟨1, false, .other, [], (some (.nilf)), 8, false⟩),
  (219, ⟨1, false, .other, [], (some (.nilf)), 8, false⟩),
  (220, ⟨1, false, .other, [], (some (.nilf)), 8, false⟩),
  (221, ⟨1, false, .other, [], (some (.nilf)), 8, false⟩),
  (222, ⟨1, false, .other, [], (some (.nilf)), 8, false⟩),
  (223, ⟨1, false, .other, [], (some (.nilf)), 8, false⟩),
  (224, ⟨1, false, .other, [], (some (.nilf)), 8, false⟩),
  (225, ⟨1, false, .other, [], (some (.nilf)), 8, false⟩),
  (226, ⟨1, false, .other, [], (some (.nilf)), 8, false⟩),
  (227, ⟨1, false, .other, [], (some (.nilf)), 8, false⟩),
  (228, ⟨1, false, .other, [], (some (.nilf)), 8, false⟩),
  (229, ⟨1, false, .other, [], (some (.nilf)), 8, false⟩),
  (230, ⟨1, false, .other, [], (some (.nilf)), 8, false⟩),
  (231, ⟨1, false, .other, [], (some (.nilf)), 8, false⟩),
  (232, ⟨1, false, .other, [], (some (.nilp)), 8, true⟩),
  (233, ⟨1, false, (.int .u64), [], (some (.int .u64 0)), 8, true⟩),
  (234, ⟨3, true, .struct, [(0, 17), (1, 232), (2, 233)], (some (.agg [.nilp, .nilp, .int .u64 0])), 24, false⟩),
  (235, ⟨3, true, .struct, [(0, 17), (1, 232), (2, 233)], (some (.agg [.nilp, .nilp, .int .u64 0])), 24, false⟩),
  (236, ⟨1, false, .other, [], (some (.nilf)), 8, false⟩),
  (237, ⟨1, false, .iface, [], (some (.nili)), 16, true⟩),
  (238, ⟨1, false, .iface, [], (some (.nili)), 16, true⟩),
  (239, ⟨1, false, .other, [], (some (.nilf)), 8, false⟩),
  (240, ⟨1, false, (.int .u8), [], (some (.int .u8 0)), 1, true⟩),
  (241, ⟨1, false, .other, [], (some (.nilf)), 8, false⟩),
  (242, ⟨1, false, .other, [], (some (.nilf)), 8, false⟩),
  (243, ⟨1, false, .other, [], (some (.nilf)), 8, false⟩),
  (244, ⟨1, false, .other, [], (some (.nilf)), 8, false⟩),
  (245, ⟨4, true, .struct, [(0, 3), (1, 9), (2, 3), (3, 3)], (some (.agg [.int .i64 0, .str [], .int .i64 0, .int .i64 0])), 40, true⟩),
  (246, ⟨4, true, .struct, [(0, 3), (1, 9), (2, 3), (3, 3)], (some (.agg [.int .i64 0, .str [], .int .i64 0, .int .i64 0])), 40, true⟩),
  (247, ⟨1, false, .other, [], none, 0, false⟩),
  (248, ⟨1, false, .other, [], (some (.nilf)), 8, false⟩),
  (249, ⟨1, false, .other, [], (some (.nilf)), 8, false⟩),
  (250, ⟨1, false, .other, [], (some (.nilf)), 8, false⟩),
  (251, ⟨1, false, .other, [], (some (.nilf)), 8, false⟩),
  (252, ⟨1, false, .other, [], (some (.nilf)), 8, false⟩),
  (253, ⟨1, false, .other, [], (some (.nilf)), 8, false⟩),
  (254, ⟨1, true, .struct, [(0, 123)], (some (.agg [.nili])), 16, false⟩),
  (255, ⟨1, true, .struct, [(0, 123)], (some (.agg [.nili])), 16, false⟩),
  (256, ⟨3, true, (.array 3 3), [(0, 3), (1, 3), (2, 3)], (some (.agg [.int .i64 0, .int .i64 0, .int .i64 0])), 24, true⟩),
  (257, ⟨1, false, .other, [], (some (.nilf)), 8, false⟩),
  (258, ⟨1, false, .other, [], (some (.nilf)), 8, false⟩),
  (259, ⟨1, false, (.int .u32), [], (some (.int .u32 0)), 4, true⟩),
  (260, ⟨1, false, .other, [], none, 0, false⟩),
  (261, ⟨1, false, .other, [], (some (.nilf)), 8, false⟩),
  (262, ⟨1, false, .other, [], none, 0, false⟩),
  (263, ⟨1, false, .other, [], (some (.nilf)), 8, false⟩),
  (264, ⟨1, false, .other, [], (some (.nilf)), 8, false⟩),
  (265, ⟨1, false, .other, [], (some (.nilf)), 8, false⟩),
  (266, ⟨1, false, .other, [], (some (.nilf)), 8, false⟩),
  (267, ⟨1, false, .other, [], (some (.nilf)), 8, false⟩),
  (268, ⟨1, false, .other, [], (some (.nilf)), 8, false⟩),
  (269, ⟨1, false, .other, [], (some (.nilf)), 8, false⟩),
  (270, ⟨1, false, (.pointer 322), [], (some (.nilp)), 8, true⟩),
  (271, ⟨1, false, .other, [], (some (.nilf)), 8, false⟩),
  (272, ⟨1, false, (.pointer 270), [], (some (.nilp)), 8, true⟩),
  (273, ⟨1, false, .other, [], (some (.nilf)), 8, false⟩),
  (274, ⟨1, false, .other, [], (some (.nilf)), 8, false⟩),
  (275, ⟨1, false, .other, [], (some (.nilf)), 8, false⟩),
  (276, ⟨1, false, .other, [], (some (.nilf)), 8, false⟩),
  (277, ⟨1, false, .other, [], (some (.nilf)), 8, false⟩),
  (278, ⟨1, false, (.slice 34), [], (some (.nils)), 24, false⟩),
  (279, ⟨1, false, .other, [], (some (.nilf)), 8, false⟩),
  (280, ⟨1, false, (.pointer 46), [], (some (.nilp)), 8, true⟩),
  (281, ⟨1, false, .other, [], none, 0, false⟩),
  (282, ⟨1, false, .other, [], (some (.nilf)), 8, false⟩),
  (283, ⟨1, false, .other, [], (some (.nilf)), 8, false⟩),
  (284, ⟨1, false, .other, [], (some (.nilf)), 8, false⟩),
  (285, ⟨1, false, .other, [], (some (.nilf)), 8, false⟩),
  (286, ⟨2, true, .struct, [(0, 9), (1, 123)], (some (.agg [.str [], .nili])), 32, false⟩),
  (287, ⟨2, true, .struct, [(0, 9), (1, 123)], (some (.agg [.str [], .nili])), 32, false⟩),
  (288, ⟨1, true, .struct, [(0, 17)], (some (.agg [.nilp])), 8, false⟩),
  (289, ⟨1, true, .struct, [(0, 17)], (some (.agg [.nilp])), 8, false⟩),
  (290, ⟨1, false, (.pointer 437), [], (some (.nilp)), 8, true⟩),
  (291, ⟨1, false, .other, [], (some (.nilf)), 8, false⟩),
  (292, ⟨1, false, .other, [], (some (.nilf)), 8, false⟩),
  (293, ⟨1, false, .iface, [], (some (.nili)), 16, true⟩),
  (294, ⟨1, false, .other, [], none, 0, false⟩),
  (295, ⟨1, false, .other, [], (some (.nilf)), 8, false⟩),
  (296, ⟨1, false, .iface, [], (some (.nili)), 16, true⟩),
  (297, ⟨1, false, .iface, [], (some (.nili)), 16, true⟩),
  (298, ⟨1, false, (.slice 123), [], (some (.nils)), 24, false⟩),
  (299, ⟨1, false, .other, [], (some (.nilf)), 8, false⟩),
  (300, ⟨1, false, .other, [], (some (.nilf)), 8, false⟩),
  (301, ⟨1, false, .other, [], (some (.nilf)), 8, false⟩),
  (302, ⟨1, false, .other, [], (some (.nilf)), 8, false⟩),
  (303, ⟨1, false, .other, [], (some (.nilf)), 8, false⟩),
  (304, ⟨1, false, .other, [], (some (.nilf)), 8, false⟩),
  (305, ⟨1, false, .iface, [], (some (.nili)), 16, true⟩),
  (306, ⟨1, false, .other, [], none, 0, false⟩),
  (307, ⟨1, false, .other, [], (some (.nilf)), 8, false⟩),
  (308, ⟨1, false, .other, [], (some (.nilf)), 8, false⟩),
  (309, ⟨0, true, .struct, [], (some (.agg [])), 0, true⟩),
  (310, ⟨1, false, (.slice 352), [], (some (.nils)), 24, false⟩),
  (311, ⟨1, false, .other, [], none, 0, false⟩),
  (312, ⟨1, false, .other, [], (some (.nilf)), 8, false⟩),
  (313, ⟨1, false, (.pointer 315), [], (some (.nilp)), 8, true⟩),
  (314, ⟨5, true, .struct, [(0, 310), (1, 3), (2, 3), (3, 4), (4, 3)], (some (.agg [.nils, .int .i64 0, .int .i64 0, .bool false, .int .i64 0])), 56, false⟩),
  (315, ⟨5, true, .struct, [(0, 310), (1, 3), (2, 3), (3, 4), (4, 3)], (some (.agg [.nils, .int .i64 0, .int .i64 0, .bool false, .int .i64 0])), 56, false⟩),
  (316, ⟨1, false, .other, [], (some (.nilf)), 8, false⟩),
  (317, ⟨1, false, .other, [], (some (.nilf)), 8, false⟩),
  (318, ⟨1, false, .other, [], (some (.nilf)), 8, false⟩),
  (319, ⟨1, false, .other, [], (some (.nilf)), 8, false⟩),
  (320, ⟨1, false, .other, [], (some (.nilf)), 8, false⟩),
  (321, ⟨1, true, .struct, [(0, 9)], (some (.agg [.str []])), 16, true⟩),
  (322, ⟨1, true, .struct, [(0, 9)], (some (.agg [.str []])), 16, true⟩),
  (323, ⟨1, true, .struct, [(0, 123)], (some (.agg [.nili])), 16, false⟩),
  (324, ⟨1, true, .struct, [(0, 123)], (some (.agg [.nili])), 16, false⟩),
  (325, ⟨1, false, .other, [], (some (.nilf)), 8, false⟩),
  (326, ⟨1, false, .other, [], (some (.nilf)), 8, false⟩),
  (327, ⟨1, false, (.pointer 329), [], (some (.nilp)), 8, true⟩),
  (328, ⟨1, true, .struct, [(0, 298)], (some (.agg [.nils])), 24, false⟩),
  (329, ⟨1, true, .struct, [(0, 298)], (some (.agg [.nils])), 24, false⟩),
  (330, ⟨1, false, .other, [], (some (.nilf)), 8, false⟩),
  (331, ⟨1, false, .other, [], (some (.nilf)), 8, false⟩),
  (332, ⟨1, false, .other, [], (some (.nilf)), 8, false⟩),
  (333, ⟨1, false, .other, [], (some (.nilf)), 8, false⟩),
  (334, ⟨1, false, (.pointer 336), [], (some (.nilp)), 8, true⟩),
  (335, ⟨12, true, .struct, [(0, 46), (7, 30)], (some (.agg [.int .i64 0, .int .i64 0, .int .i64 0, .int .i64 0, .int .i64 0, .nils, .nils, .int .i64 0, .int .i64 0, .str [], .nils, .nils])), 168, false⟩),
  (336, ⟨12, true, .struct, [(0, 46), (7, 30)], (some (.agg [.int .i64 0, .int .i64 0, .int .i64 0, .int .i64 0, .int .i64 0, .nils, .nils, .int .i64 0, .int .i64 0, .str [], .nils, .nils])), 168, false⟩),
  (337, ⟨1, false, .other, [], (some (.nilf)), 8, false⟩),
  (338, ⟨1, false, .other, [], (some (.nilf)), 8, false⟩),
  (339, ⟨1, false, .other, [], none, 0, false⟩),
  (340, ⟨1, false, .other, [], (some (.nilf)), 8, false⟩),
  (341, ⟨1, false, .other, [], (some (.nilf)), 8, false⟩),
  (342, ⟨1, false, .other, [], (some (.nilf)), 8, false⟩),
  (343, ⟨1, false, .other, [], (some (.nilf)), 8, false⟩),
  (344, ⟨1, false, .other, [], (some (.nilf)), 8, false⟩),
  (345, ⟨1, false, (.pointer 347), [], (some (.nilp)), 8, true⟩),
  (346, ⟨2, true, .struct, [(0, 97), (1, 123)], (some (.agg [.nils, .nili])), 40, false⟩),
  (347, ⟨2, true, .struct, [(0, 97), (1, 123)], (some (.agg [.nils, .nili])), 40, false⟩),
  (348, ⟨1, false, .other, [], (some (.nilf)), 8, false⟩),
  (349, ⟨0, true, .struct, [], (some (.agg [])), 0, true⟩),
  (350, ⟨1, false, .other, [], (some (.nilf)), 8, false⟩),
  (351, ⟨1, false, .other, [], (some (.nilf)), 8, false⟩),
  (352, ⟨4, true, .struct, [(0, 3), (1, 9), (2, 3), (3, 3)], (some (.agg [.int .i64 0, .str [], .int .i64 0, .int .i64 0])), 40, true⟩),
  (353, ⟨1, false, .other, [], none, 0, false⟩),
  (354, ⟨1, false, .other, [], (some (.nilf)), 8, false⟩),
  (355, ⟨1, false, .other, [], (some (.nilf)), 8, false⟩),
  (356, ⟨1, false, .other, [], (some (.nilf)), 8, false⟩),
  (357, ⟨1, false, .other, [], (some (.nilf)), 8, false⟩),
  (358, ⟨1, false, .other, [], (some (.nilf)), 8, false⟩),
  (359, ⟨0, true, .struct, [], (some (.agg [])), 0, true⟩),
  (360, ⟨1, false, .other, [], (some (.nilf)), 8, false⟩),
  (361, ⟨1, false, .other, [], none, 0, false⟩),
  (362, ⟨1, false, .other, [], (some (.nilf)), 8, false⟩),
  (363, ⟨1, false, (.int .u64), [], (some (.int .u64 0)), 8, true⟩),
  (364, ⟨1, false, .other, [], none, 0, false⟩),
  (365, ⟨1, false, .other, [], (some (.nilf)), 8, false⟩),
  (366, ⟨1, false, .other, [], (some (.nilf)), 8, false⟩),
  (367, ⟨1, false, .other, [], (some (.nilf)), 8, false⟩),
  (368, ⟨1, false, .other, [], (some (.nilf)), 8, false⟩),
  (369, ⟨1, false, .other, [], (some (.nilf)), 8, false⟩),
  (370, ⟨1, false, .other, [], none, 0, false⟩),
  (371, ⟨1, false, .other, [], (some (.nilf)), 8, false⟩),
  (372, ⟨2, true, .struct, [(0, 9), (1, 123)], (some (.agg [.str [], .nili])), 32, false⟩),
  (373, ⟨2, true, .struct, [(0, 9), (1, 123)], (some (.agg [.str [], .nili])), 32, false⟩),
  (374, ⟨1, false, .other, [], (some (.nilf)), 8, false⟩),
  (375, ⟨2, true, .struct, [(0, 9), (1, 123)], (some (.agg [.str [], .nili])), 32, false⟩),
  (376, ⟨2, true, .struct, [(0, 9), (1, 123)], (some (.agg [.str [], .nili])), 32, false⟩),
  (377, ⟨1, false, .other, [], (some (.nilf)), 8, false⟩),
  (378, ⟨1, false, .other, [], (some (.nilf)), 8, false⟩),
  (379, ⟨1, false, .other, [], (some (.nilf)), 8, false⟩),
  (380, ⟨256, true, (.array 256 4), [], (some (.agg [.bool false, .bool false, .bool false, .bool false, .bool false, .bool false, .bool false, .bool false, .bool false, .bool false, .bool false, .bool false, .bool false, .bool false, .bool false, .bool false, .bool false, .bool false, .bool false, .bool false, .bool false, .bool false, .bool false, .bool false, .bool false, .bool false, .bool false, .bool false, .bool false, .bool false, .bool false, .bool false, .bool false, .bool false, .bool false, .bool false, .bool false, .bool false, .bool false, .bool false, .bool false, .bool false, .bool false, .bool false, .bool false, .bool false, .bool false, .bool false, .bool false, .bool false, .bool false, .bool false, .bool false, .bool false, .bool false, .bool false, .bool false, .bool false, .bool false, .bool false, .bool false, .bool false, .bool false, .bool false, .bool false, .bool false, .bool false, .bool false, .bool false, .bool false, .bool false, .bool false, .bool false, .bool false, .bool false, .bool false, .bool false, .bool false, .bool false, .bool false, .bool false, .bool false, .bool false, .bool false, .bool false, .bool false, .bool false, .bool false, .bool false, .bool false, .bool false, .bool false, .bool false, .bool false, .bool false, .bool false, .bool false, .bool false, .bool false, .bool false, .bool false, .bool false, .bool false, .bool false, .bool false, .bool false, .bool false, .bool false, .bool false, .bool false, .bool false, .bool false, .bool false, .bool false, .bool false, .bool false, .bool false, .bool false, .bool false, .bool false, .bool false, .bool false, .bool false, .bool false, .bool false, .bool false, .bool false, .bool false, .bool false, .bool false, .bool false, .bool false, .bool false, .bool false, .bool false, .bool false, .bool false, .bool false, .bool false, .bool false, .bool false, .bool false, .bool false, .bool false, .bool false, .bool false, .bool false, .bool false, .bool false, .bool false, .bool false, .bool false, .bool false, .bool false, .bool false, .bool false, .bool false, .bool false, .bool false, .bool false, .bool false, .bool false, .bool false, .bool false, .bool false, .bool false, .bool false, .bool false, .bool false, .bool false, .bool false, .bool false, .bool false, .bool false, .bool false, .bool false, .bool false, .bool false, .bool false, .bool false, .bool false, .bool false, .bool false, .bool false, .bool false, .bool false, .bool false, .bool false, .bool false, .bool false, .bool false, .bool false, .bool false, .bool false, .bool false, .bool false, .bool false, .bool false, .bool false, .bool false, .bool false, .bool false, .bool false, .bool false, .bool false, .bool false, .bool false, .bool false, .bool false, .bool false, .bool false, .bool false, .bool false, .bool false, .bool false, .bool false, .bool false, .bool false, .bool false, .bool false, .bool false, .bool false, .bool false, .bool false, .bool false, .bool false, .bool false, .bool false, .bool false, .bool false, .bool false, .bool false, .bool false, .bool false, .bool false, .bool false, .bool false, .bool false, .bool false, .bool false, .bool false, .bool false, .bool false, .bool false, .bool false, .bool false, .bool false, .bool false, .bool false, .bool false, .bool false, .bool false, .bool false, .bool false, .bool false, .bool false])), 256, true⟩),
  (381, ⟨256, true, (.array 256 4), [], (some (.agg [.bool false, .bool false, .bool false, .bool false, .bool false, .bool false, .bool false, .bool false, .bool false, .bool false, .bool false, .bool false, .bool false, .bool false, .bool false, .bool false, .bool false, .bool false, .bool false, .bool false, .bool false, .bool false, .bool false, .bool false, .bool false, .bool false, .bool false, .bool false, .bool false, .bool false, .bool false, .bool false, .bool false, .bool false, .bool false, .bool false, .bool false, .bool false, .bool false, .bool false, .bool false, .bool false, .bool false, .bool false, .bool false, .bool false, .bool false, .bool false, .bool false, .bool false, .bool false, .bool false, .bool false, .bool false, .bool false, .bool false, .bool false, .bool false, .bool false, .bool false, .bool false, .bool false, .bool false, .bool false, .bool false, .bool false, .bool false, .bool false, .bool false, .bool false, .bool false, .bool false, .bool false, .bool false, .bool false, .bool false, .bool false, .bool false, .bool false, .bool false, .bool false, .bool false, .bool false, .bool false, .bool false, .bool false, .bool false, .bool false, .bool false, .bool false, .bool false, .bool false, .bool false, .bool false, .bool false, .bool false, .bool false, .bool false, .bool false, .bool false, .bool false, .bool false, .bool false, .bool false, .bool false, .bool false, .bool false, .bool false, .bool false, .bool false, .bool false, .bool false, .bool false, .bool false, .bool false, .bool false, .bool false, .bool false, .bool false, .bool false, .bool false, .bool false, .bool false, .bool false, .bool false, .bool false, .bool false, .bool false, .bool false, .bool false, .bool false, .bool false, .bool false, .bool false, .bool false, .bool false, .bool false, .bool false, .bool false, .bool false, .bool false, .bool false, .bool false, .bool false, .bool false, .bool false, .bool false, .bool false, .bool false, .bool false, .bool false, .bool false, .bool false, .bool false, .bool false, .bool false, .bool false, .bool false, .bool false, .bool false, .bool false, .bool false, .bool false, .bool false, .bool false, .bool false, .bool false, .bool false, .bool false, .bool false, .bool false, .bool false, .bool false, .bool false, .bool false, .bool false, .bool false, .bool false, .bool false, .bool false, .bool false, .bool false, .bool false, .bool false, .bool false, .bool false, .bool false, .bool false, .bool false, .bool false, .bool false, .bool false, .bool false, .bool false, .bool false, .bool false, .bool false, .bool false, .bool false, .bool false, .bool false, .bool false, .bool false, .bool false, .bool false, .bool false, .bool false, .bool false, .bool false, .bool false, .bool false, .bool false, .bool false, .bool false, .bool false, .bool false, .bool false, .bool false, .bool false, .bool false, .bool false, .bool false, .bool false, .bool false, .bool false, .bool false, .bool false, .bool false, .bool false, .bool false, .bool false, .bool false, .bool false, .bool false, .bool false, .bool false, .bool false, .bool false, .bool false, .bool false, .bool false, .bool false, .bool false, .bool false, .bool false, .bool false, .bool false, .bool false, .bool false, .bool false, .bool false, .bool false, .bool false, .bool false, .bool false, .bool false])), 256, true⟩),
  (382, ⟨1, false, .other, [], none, 0, false⟩),
  (383, ⟨1, false, .other, [], (some (.nilf)), 8, false⟩),
  (384, ⟨1, false, .other, [], (some (.nilf)), 8, false⟩),
  (385, ⟨1, false, (.pointer 381), [], (some (.nilp)), 8, true⟩),
  (386, ⟨1, false, .other, [], (some (.nilf)), 8, false⟩),
  (387, ⟨1, false, .other, [], (some (.nilf)), 8, false⟩),
  (388, ⟨2, true, .struct, [(0, 9), (1, 123)], (some (.agg [.str [], .nili])), 32, false⟩),
  (389, ⟨2, true, .struct, [(0, 9), (1, 123)], (some (.agg [.str [], .nili])), 32, false⟩),
  (390, ⟨1, false, .other, [], (some (.nilf)), 8, false⟩),
  (391, ⟨1, false, .other, [], (some (.nilf)), 8, false⟩),
  (392, ⟨1, false, .other, [], (some (.nilf)), 8, false⟩),
  (393, ⟨2, true, .struct, [(0, 9), (1, 123)], (some (.agg [.str [], .nili])), 32, false⟩),
  (394, ⟨2, true, .struct, [(0, 9), (1, 123)], (some (.agg [.str [], .nili])), 32, false⟩),
  (395, ⟨1, false, .other, [], (some (.nilf)), 8, false⟩),
  (396, ⟨1, false, .other, [], none, 0, false⟩),
  (397, ⟨1, false, .other, [], (some (.nilf)), 8, false⟩),
  (398, ⟨1, false, .other, [], (some (.nilf)), 8, false⟩),
  (399, ⟨1, false, .other, [], (some (.nilf)), 8, false⟩),
  (400, ⟨1, false, .other, [], none, 0, false⟩),
  (401, ⟨1, false, .other, [], (some (.nilf)), 8, false⟩),
  (402, ⟨0, true, .struct, [], (some (.agg [])), 0, true⟩),
  (403, ⟨0, true, .struct, [], (some (.agg [])), 0, true⟩),
  (404, ⟨1, false, (.pointer 406), [], (some (.nilp)), 8, true⟩),
  (405, ⟨3, true, .struct, [(0, 97), (1, 3), (2, 123)], (some (.agg [.nils, .int .i64 0, .nili])), 48, false⟩),
  (406, ⟨3, true, .struct, [(0, 97), (1, 3), (2, 123)], (some (.agg [.nils, .int .i64 0, .nili])), 48, false⟩),
  (407, ⟨1, true, .struct, [(0, 9)], (some (.agg [.str []])), 16, true⟩),
  (408, ⟨1, true, .struct, [(0, 9)], (some (.agg [.str []])), 16, true⟩),
  (409, ⟨1, false, (.pointer 408), [], (some (.nilp)), 8, true⟩),
  (410, ⟨1, false, .other, [], (some (.nilf)), 8, false⟩),
  (411, ⟨1, true, .struct, [(0, 123)], (some (.agg [.nili])), 16, false⟩),
  (412, ⟨1, true, .struct, [(0, 123)], (some (.agg [.nili])), 16, false⟩),
  (413, ⟨1, true, .struct, [(0, 123)], (some (.agg [.nili])), 16, false⟩),
  (414, ⟨1, true, .struct, [(0, 123)], (some (.agg [.nili])), 16, false⟩),
  (415, ⟨256, true, (.array 256 5), [], (some (.agg [.int .u8 0, .int .u8 0, .int .u8 0, .int .u8 0, .int .u8 0, .int .u8 0, .int .u8 0, .int .u8 0, .int .u8 0, .int .u8 0, .int .u8 0, .int .u8 0, .int .u8 0, .int .u8 0, .int .u8 0, .int .u8 0, .int .u8 0, .int .u8 0, .int .u8 0, .int .u8 0, .int .u8 0, .int .u8 0, .int .u8 0, .int .u8 0, .int .u8 0, .int .u8 0, .int .u8 0, .int .u8 0, .int .u8 0, .int .u8 0, .int .u8 0, .int .u8 0, .int .u8 0, .int .u8 0, .int .u8 0, .int .u8 0, .int .u8 0, .int .u8 0, .int .u8 0, .int .u8 0, .int .u8 0, .int .u8 0, .int .u8 0, .int .u8 0, .int .u8 0, .int .u8 0, .int .u8 0, .int .u8 0, .int .u8 0, .int .u8 0, .int .u8 0, .int .u8 0, .int .u8 0, .int .u8 0, .int .u8 0, .int .u8 0, .int .u8 0, .int .u8 0, .int .u8 0, .int .u8 0, .int .u8 0, .int .u8 0, .int .u8 0, .int .u8 0, .int .u8 0, .int .u8 0, .int .u8 0, .int .u8 0, .int .u8 0, .int .u8 0, .int .u8 0, .int .u8 0, .int .u8 0, .int .u8 0, .int .u8 0, .int .u8 0, .int .u8 0, .int .u8 0, .int .u8 0, .int .u8 0, .int .u8 0, .int .u8 0, .int .u8 0, .int .u8 0, .int .u8 0, .int .u8 0, .int .u8 0, .int .u8 0, .int .u8 0, .int .u8 0, .int .u8 0, .int .u8 0, .int .u8 0, .int .u8 0, .int .u8 0, .int .u8 0, .int .u8 0, .int .u8 0, .int .u8 0, .int .u8 0, .int .u8 0, .int .u8 0, .int .u8 0, .int .u8 0, .int .u8 0, .int .u8 0, .int .u8 0, .int .u8 0, .int .u8 0, .int .u8 0, .int .u8 0, .int .u8 0, .int .u8 0, .int .u8 0, .int .u8 0, .int .u8 0, .int .u8 0, .int .u8 0, .int .u8 0, .int .u8 0, .int .u8 0, .int .u8 0, .int .u8 0, .int .u8 0, .int .u8 0, .int .u8 0, .int .u8 0, .int .u8 0, .int .u8 0, .int .u8 0, .int .u8 0, .int .u8 0, .int .u8 0, .int .u8 0, .int .u8 0, .int .u8 0, .int .u8 0, .int .u8 0, .int .u8 0, .int .u8 0, .int .u8 0, .int .u8 0, .int .u8 0, .int .u8 0, .int .u8 0, .int .u8 0, .int .u8 0, .int .u8 0, .int .u8 0, .int .u8 0, .int .u8 0, .int .u8 0, .int .u8 0, .int .u8 0, .int .u8 0, .int .u8 0, .int .u8 0, .int .u8 0, .int .u8 0, .int .u8 0, .int .u8 0, .int .u8 0, .int .u8 0, .int .u8 0, .int .u8 0, .int .u8 0, .int .u8 0, .int .u8 0, .int .u8 0, .int .u8 0, .int .u8 0, .int .u8 0, .int .u8 0, .int .u8 0, .int .u8 0, .int .u8 0, .int .u8 0, .int .u8 0, .int .u8 0, .int .u8 0, .int .u8 0, .int .u8 0, .int .u8 0, .int .u8 0, .int .u8 0, .int .u8 0, .int .u8 0, .int .u8 0, .int .u8 0, .int .u8 0, .int .u8 0, .int .u8 0, .int .u8 0, .int .u8 0, .int .u8 0, .int .u8 0, .int .u8 0, .int .u8 0, .int .u8 0, .int .u8 0, .int .u8 0, .int .u8 0, .int .u8 0, .int .u8 0, .int .u8 0, .int .u8 0, .int .u8 0, .int .u8 0, .int .u8 0, .int .u8 0, .int .u8 0, .int .u8 0, .int .u8 0, .int .u8 0, .int .u8 0, .int .u8 0, .int .u8 0, .int .u8 0, .int .u8 0, .int .u8 0, .int .u8 0, .int .u8 0, .int .u8 0, .int .u8 0, .int .u8 0, .int .u8 0, .int .u8 0, .int .u8 0, .int .u8 0, .int .u8 0, .int .u8 0, .int .u8 0, .int .u8 0, .int .u8 0, .int .u8 0, .int .u8 0, .int .u8 0, .int .u8 0, .int .u8 0, .int .u8 0, .int .u8 0, .int .u8 0, .int .u8 0, .int .u8 0, .int .u8 0, .int .u8 0, .int .u8 0, .int .u8 0, .int .u8 0, .int .u8 0, .int .u8 0, .int .u8 0, .int .u8 0, .int .u8 0, .int .u8 0, .int .u8 0])), 256, true⟩),
  (416, ⟨2, true, .struct, [(0, 5), (1, 5)], (some (.agg [.int .u8 0, .int .u8 0])), 2, true⟩),
  (417, ⟨2, true, .struct, [(0, 5), (1, 5)], (some (.agg [.int .u8 0, .int .u8 0])), 2, true⟩),
  (418, ⟨32, true, (.array 16 417), [(0, 417), (2, 417), (4, 417), (6, 417), (8, 417), (10, 417), (12, 417), (14, 417), (16, 417), (18, 417), (20, 417), (22, 417), (24, 417), (26, 417), (28, 417), (30, 417)], (some (.agg [.int .u8 0, .int .u8 0, .int .u8 0, .int .u8 0, .int .u8 0, .int .u8 0, .int .u8 0, .int .u8 0, .int .u8 0, .int .u8 0, .int .u8 0, .int .u8 0, .int .u8 0, .int .u8 0, .int .u8 0, .int .u8 0, .int .u8 0, .int .u8 0, .int .u8 0, .int .u8 0, .int .u8 0, .int .u8 0, .int .u8 0, .int .u8 0, .int .u8 0, .int .u8 0, .int .u8 0, .int .u8 0, .int .u8 0, .int .u8 0, .int .u8 0, .int .u8 0])), 32, true⟩),
  (419, ⟨1, false, .other, [], (some (.nilf)), 8, false⟩),
  (420, ⟨1, false, .other, [], (some (.nilf)), 8, false⟩),
  (421, ⟨4, true, .struct, [(0, 17), (1, 17), (2, 17), (3, 9)], (some (.agg [.nilp, .nilp, .nilp, .str []])), 40, false⟩),
  (422, ⟨4, true, .struct, [(0, 17), (1, 17), (2, 17), (3, 9)], (some (.agg [.nilp, .nilp, .nilp, .str []])), 40, false⟩),
  (423, ⟨0, true, (.array 0 16), [], (some (.agg [])), 0, true⟩),
  (424, ⟨0, true, .struct, [(0, 423)], (some (.agg [])), 0, false⟩),
  (425, ⟨0, true, .struct, [(0, 423)], (some (.agg [])), 0, false⟩),
  (426, ⟨1, false, .other, [], (some (.nilf)), 8, false⟩),
  (427, ⟨1, false, (.int .u8), [], (some (.int .u8 0)), 1, true⟩),
  (428, ⟨1, false, .other, [], (some (.nilf)), 8, false⟩),
  (429, ⟨1, false, (.pointer 5), [], (some (.nilp)), 8, true⟩),
  (430, ⟨1, false, (.int .i32), [], (some (.int .i32 0)), 4, true⟩),
  (431, ⟨1, false, (.int .i32), [], (some (.int .i32 0)), 4, true⟩),
  (432, ⟨11, true, .struct, [(0, 12), (1, 12), (2, 259), (3, 427), (4, 5), (5, 5), (6, 240), (7, 428), (8, 429), (9, 430), (10, 431)], (some (.agg [.int .u64 0, .int .u64 0, .int .u32 0, .int .u8 0, .int .u8 0, .int .u8 0, .int .u8 0, .nilf, .nilp, .int .i32 0, .int .i32 0])), 48, false⟩),
  (433, ⟨11, true, .struct, [(0, 12), (1, 12), (2, 259), (3, 427), (4, 5), (5, 5), (6, 240), (7, 428), (8, 429), (9, 430), (10, 431)], (some (.agg [.int .u64 0, .int .u64 0, .int .u32 0, .int .u8 0, .int .u8 0, .int .u8 0, .int .u8 0, .nilf, .nilp, .int .i32 0, .int .i32 0])), 48, false⟩),
  (434, ⟨1, false, .other, [], (some (.nilf)), 8, false⟩),
  (435, ⟨1, false, .other, [], (some (.nilf)), 8, false⟩),
  (436, ⟨2, true, .struct, [(0, 9), (1, 240)], (some (.agg [.str [], .int .u8 0])), 24, false⟩),
  (437, ⟨2, true, .struct, [(0, 9), (1, 240)], (some (.agg [.str [], .int .u8 0])), 24, false⟩),
  (438, ⟨1, false, (.pointer 441), [], (some (.nilp)), 8, true⟩),
  (439, ⟨1, false, .other, [], (some (.nilf)), 8, false⟩),
  (440, ⟨5, true, .struct, [(0, 430), (1, 180), (2, 180), (3, 259), (4, 259)], (some (.agg [.int .i32 0, .int .u16 0, .int .u16 0, .int .u32 0, .int .u32 0])), 16, false⟩),
  (441, ⟨5, true, .struct, [(0, 430), (1, 180), (2, 180), (3, 259), (4, 259)], (some (.agg [.int .i32 0, .int .u16 0, .int .u16 0, .int .u32 0, .int .u32 0])), 16, false⟩),
  (442, ⟨1, false, (.slice 445), [], (some (.nils)), 24, false⟩),
  (443, ⟨1, false, (.int .i32), [], (some (.int .i32 0)), 4, true⟩),
  (444, ⟨4, true, .struct, [(0, 430), (1, 431), (2, 443), (3, 443)], (some (.agg [.int .i32 0, .int .i32 0, .int .i32 0, .int .i32 0])), 16, false⟩),
  (445, ⟨4, true, .struct, [(0, 430), (1, 431), (2, 443), (3, 443)], (some (.agg [.int .i32 0, .int .i32 0, .int .i32 0, .int .i32 0])), 16, false⟩),
  (446, ⟨1, false, (.pointer 123), [], (some (.nilp)), 8, true⟩)]
def Tryz.plans : List (Nat × Nat × Plan) := [
  (4, 19, (.sil 0 (.sil 1 (.sil 2 (.sil 3 (.sil 4 (.eff 5 (.sil 6 (.sil 7 (.sil 8 (.sil 9 (.sil 10 (.eff 11 (.sil 12 (.sil 13 (.sil 14 (.sil 15 .stop))))))))))))))))),
  (5, 8, (.sil 0 (.sil 1 (.sil 2 (.sil 3 (.sil 4 (.alt (.eff 5 (.sil 6 (.sil 7 (.sil 8 (.eff 9 (.eff 10 (.sil 11 .stop))))))) (.eff 9 (.eff 5 (.sil 6 (.sil 7 (.sil 8 (.eff 10 (.sil 11 .stop)))))))))))))),
  (5, 18, (.sil 0 (.sil 1 (.sil 2 (.sil 3 (.sil 4 (.sil 5 (.sil 6 (.sil 7 (.sil 8 (.sil 9 (.sil 10 (.sil 11 (.sil 12 (.sil 13 .stop))))))))))))))),
  (5, 19, (.sil 0 (.sil 2 (.eff 1 (.eff 3 (.sil 4 (.sil 5 .stop))))))),
  (7, 11, (.sil 0 (.sil 1 (.sil 2 (.sil 3 (.sil 4 (.alt (.eff 5 (.sil 6 (.sil 7 (.sil 8 (.eff 9 (.eff 10 (.sil 11 .stop))))))) (.eff 9 (.eff 5 (.sil 6 (.sil 7 (.sil 8 (.eff 10 (.sil 11 .stop)))))))))))))),
  (12, 9, (.sil 0 (.sil 1 (.sil 2 (.sil 3 (.sil 4 (.eff 5 (.sil 6 (.eff 7 .stop))))))))),
  (12, 10, (.sil 0 (.sil 1 (.eff 2 (.eff 3 .stop))))),
  (14, 2, (.sil 0 (.sil 1 (.sil 2 (.sil 6 (.eff 3 (.eff 4 (.sil 5 .stop)))))))),
  (14, 8, (.sil 0 (.sil 1 (.sil 3 (.sil 4 (.eff 2 (.sil 6 (.eff 5 (.eff 7 (.sil 8 (.eff 9 .stop))))))))))),
  (17, 11, (.sil 0 (.sil 1 (.sil 2 (.sil 3 (.sil 4 (.sil 5 (.sil 6 (.sil 7 (.sil 8 (.sil 9 (.sil 10 (.alt (.eff 11 (.sil 12 (.sil 13 (.sil 14 (.eff 15 (.eff 16 (.sil 17 .stop))))))) (.eff 15 (.eff 11 (.sil 12 (.sil 13 (.sil 14 (.eff 16 (.sil 17 .stop)))))))))))))))))))),
  (17, 26, (.sil 0 (.sil 1 (.sil 2 (.sil 3 (.sil 4 (.sil 5 (.sil 6 (.sil 7 (.alt (.eff 8 (.sil 9 (.sil 10 (.sil 11 (.eff 12 (.eff 13 (.sil 14 .stop))))))) (.eff 12 (.eff 8 (.sil 9 (.sil 10 (.sil 11 (.eff 13 (.sil 14 .stop))))))))))))))))),
  (22, 4, (.sil 0 (.sil 2 (.eff 1 (.eff 3 (.eff 4 (.sil 5 .stop))))))),
  (23, 4, (.sil 0 (.sil 1 (.sil 2 (.eff 3 (.eff 4 (.sil 5 .stop))))))),
  (26, 9, (.sil 0 (.sil 1 (.sil 2 (.sil 3 (.sil 4 (.sil 5 (.eff 6 (.sil 7 (.sil 8 (.eff 9 .stop))))))))))),
  (27, 4, (.sil 0 (.sil 1 (.eff 2 (.eff 3 (.sil 4 .stop)))))),
  (27, 10, (.sil 0 (.sil 1 (.sil 2 (.sil 3 (.sil 4 (.sil 5 (.sil 6 (.sil 7 (.sil 8 (.sil 9 (.sil 10 (.sil 11 (.sil 12 .stop)))))))))))))),
  (27, 11, (.sil 0 (.sil 1 (.sil 2 (.sil 3 (.sil 4 (.sil 5 (.sil 6 (.sil 7 (.sil 8 (.sil 9 (.sil 10 (.eff 11 .stop))))))))))))),
  (30, 2, (.sil 0 (.sil 1 (.sil 2 (.sil 3 (.sil 4 (.sil 5 (.sil 6 (.sil 7 (.sil 9 (.eff 8 (.eff 10 (.sil 11 (.sil 12 .stop)))))))))))))),
  (34, 5, (.sil 0 (.sil 1 (.sil 2 (.sil 3 (.sil 4 (.sil 5 (.eff 6 (.sil 7 .stop))))))))),
  (35, 6, (.sil 0 (.sil 1 (.sil 2 (.sil 3 (.sil 4 (.sil 5 (.sil 6 (.sil 7 (.sil 8 (.sil 9 (.sil 10 (.sil 11 (.sil 12 (.sil 13 (.sil 14 (.sil 15 (.sil 16 (.sil 17 (.sil 18 (.sil 19 .stop))))))))))))))))))))),
  (35, 7, (.sil 0 (.sil 1 (.sil 2 (.sil 3 (.sil 7 (.sil 8 (.eff 4 (.eff 5 (.eff 6 (.sil 9 (.sil 10 .stop)))))))))))),
  (35, 8, (.sil 0 (.sil 1 (.sil 2 (.sil 3 (.sil 4 (.sil 5 (.sil 6 (.sil 7 (.sil 8 (.sil 9 (.sil 10 (.sil 11 (.sil 12 (.sil 13 (.sil 14 .stop)))))))))))))))),
  (35, 9, (.sil 0 (.sil 1 (.sil 2 (.sil 3 (.sil 7 (.sil 8 (.eff 4 (.eff 5 (.eff 6 (.sil 9 (.sil 10 .stop)))))))))))),
  (35, 3, (.sil 0 (.sil 1 (.sil 2 (.sil 3 (.sil 4 (.sil 5 (.sil 6 .stop)))))))),
  (35, 5, (.sil 0 (.sil 1 (.sil 5 (.sil 6 (.sil 7 (.sil 8 (.eff 2 (.eff 3 (.eff 4 (.sil 9 (.sil 10 (.sil 11 .stop))))))))))))),
  (38, 7, (.sil 0 (.sil 1 (.sil 2 (.eff 3 (.sil 4 (.sil 5 .stop))))))),
  (40, 1, (.sil 0 (.sil 1 (.sil 2 (.sil 3 (.sil 4 (.sil 5 (.sil 6 (.sil 7 (.sil 8 (.alt (.eff 9 (.sil 10 (.sil 11 (.sil 12 (.eff 13 (.eff 14 (.sil 15 .stop))))))) (.eff 13 (.eff 9 (.sil 10 (.sil 11 (.sil 12 (.eff 14 (.sil 15 .stop)))))))))))))))))),
  (40, 4, (.sil 0 (.sil 1 (.sil 2 (.sil 3 (.sil 4 (.sil 5 (.sil 6 (.alt (.eff 7 (.sil 8 (.sil 9 (.sil 10 (.eff 11 (.eff 12 (.sil 13 .stop))))))) (.eff 11 (.eff 7 (.sil 8 (.sil 9 (.sil 10 (.eff 12 (.sil 13 .stop)))))))))))))))),
  (41, 8, (.sil 0 (.sil 1 (.sil 2 (.sil 3 (.sil 4 (.sil 5 (.sil 6 (.eff 7 (.eff 8 (.sil 9 (.eff 10 .stop)))))))))))),
  (41, 17, (.sil 0 (.sil 1 (.sil 2 (.sil 3 (.sil 4 (.eff 5 (.eff 6 (.sil 7 (.sil 8 (.sil 9 (.sil 10 (.sil 11 (.eff 12 (.sil 13 (.sil 14 (.sil 15 (.sil 16 (.sil 17 (.sil 18 (.sil 19 (.sil 20 (.sil 21 (.sil 22 (.eff 23 (.sil 24 (.sil 25 (.sil 26 .stop)))))))))))))))))))))))))))),
  (41, 20, (.sil 0 (.sil 1 (.sil 2 (.sil 5 (.sil 6 (.eff 3 (.eff 4 (.sil 7 (.eff 8 (.eff 9 .stop))))))))))),
  (42, 8, (.sil 0 (.sil 1 (.sil 2 (.sil 3 (.sil 4 (.sil 5 (.sil 6 (.sil 7 (.sil 8 (.sil 9 (.sil 10 (.sil 11 (.sil 12 (.sil 13 (.sil 14 (.sil 15 (.sil 16 (.sil 17 (.sil 18 (.sil 19 (.sil 20 (.sil 21 (.sil 22 (.sil 23 .stop))))))))))))))))))))))))),
  (45, 3, (.sil 0 (.sil 1 (.sil 2 (.sil 3 (.sil 5 (.sil 6 (.eff 4 (.eff 7 (.sil 8 (.sil 9 .stop))))))))))),
  (51, 9, (.sil 0 (.sil 1 (.sil 2 (.sil 3 (.sil 4 (.sil 5 (.sil 6 (.sil 7 (.sil 8 (.sil 9 (.sil 10 (.sil 11 (.sil 12 (.sil 13 (.sil 14 (.sil 15 (.sil 16 (.sil 17 (.sil 18 (.sil 19 (.sil 20 (.sil 21 (.sil 22 (.sil 23 (.sil 24 (.sil 25 (.sil 26 (.sil 27 (.sil 28 (.sil 29 (.sil 30 (.sil 31 (.sil 32 (.sil 33 (.sil 34 .stop)))))))))))))))))))))))))))))))))))),
  (52, 9, (.sil 0 (.sil 2 (.alt (.eff 1 (.eff 3 (.sil 4 (.eff 5 (.sil 6 (.eff 7 .stop)))))) (.eff 3 (.sil 4 (.alt (.eff 1 (.eff 5 (.sil 6 (.eff 7 .stop)))) (.eff 5 (.eff 1 (.sil 6 (.eff 7 .stop))))))))))),
  (55, 3, (.sil 0 (.sil 1 (.sil 3 (.sil 4 (.sil 6 (.sil 7 (.sil 8 (.eff 2 (.eff 5 (.eff 9 (.sil 10 .stop)))))))))))),
  (55, 8, (.sil 0 (.sil 1 (.sil 2 (.sil 4 (.sil 5 (.sil 7 (.sil 8 (.sil 10 (.sil 11 (.sil 12 (.eff 3 (.eff 6 (.eff 9 (.eff 13 (.sil 14 .stop)))))))))))))))),
  (55, 13, (.sil 0 (.sil 1 (.sil 2 (.sil 4 (.sil 5 (.sil 6 (.sil 8 (.sil 9 (.sil 10 (.sil 12 (.sil 13 (.sil 14 (.eff 3 (.eff 7 (.eff 11 (.eff 15 (.sil 16 .stop)))))))))))))))))),
  (56, 3, (.sil 1 (.sil 3 (.alt (.eff 0 (.alt (.eff 2 (.eff 4 (.eff 5 (.sil 6 (.sil 7 .stop))))) (.eff 4 (.eff 2 (.eff 5 (.sil 6 (.sil 7 .stop))))))) (.eff 4 (.eff 0 (.eff 2 (.eff 5 (.sil 6 (.sil 7 .stop)))))))))),
  (57, 3, (.sil 1 (.sil 2 (.sil 3 (.sil 5 (.sil 6 (.sil 7 (.sil 8 (.sil 10 (.sil 11 (.sil 12 (.sil 13 (.eff 0 (.eff 4 (.eff 9 (.sil 14 (.eff 15 (.sil 16 .stop)))))))))))))))))),
  (58, 23, (.sil 0 (.sil 1 (.sil 2 (.eff 3 (.eff 4 (.eff 5 (.sil 6 (.eff 7 .stop))))))))),
  (58, 31, (.sil 0 (.sil 1 (.sil 2 (.sil 3 (.sil 6 (.sil 7 (.sil 8 (.sil 9 (.sil 10 (.sil 11 (.eff 4 (.eff 5 (.sil 12 (.eff 13 (.sil 14 (.sil 15 (.eff 16 .stop)))))))))))))))))),
  (59, 17, (.sil 0 (.sil 1 (.sil 2 (.sil 3 (.sil 4 (.sil 5 (.eff 6 (.eff 7 (.sil 8 .stop)))))))))),
  (59, 18, (.sil 0 (.sil 1 (.eff 2 (.sil 3 (.sil 4 (.sil 5 (.sil 6 (.sil 7 (.sil 9 (.sil 10 (.eff 8 (.sil 11 (.sil 12 .stop)))))))))))))),
  (70, 2, (.sil 0 (.sil 3 (.eff 1 (.sil 2 (.eff 4 (.sil 5 (.sil 6 .stop)))))))),
  (70, 4, (.sil 0 (.sil 1 (.sil 2 (.sil 5 (.sil 6 (.sil 7 (.eff 3 (.eff 4 (.eff 8 (.eff 9 (.sil 10 (.sil 11 .stop))))))))))))),
  (70, 6, (.sil 0 (.sil 1 (.sil 2 (.sil 5 (.eff 3 (.eff 4 (.eff 6 (.sil 7 (.sil 8 .stop)))))))))),
  (74, 2, (.sil 0 (.sil 1 (.sil 2 (.sil 3 (.sil 4 (.eff 5 (.eff 6 (.sil 7 .stop))))))))),
  (76, 1, (.sil 0 (.sil 1 (.sil 2 (.sil 5 (.sil 8 (.eff 3 (.eff 4 (.eff 6 (.sil 7 .stop)))))))))),
  (77, 11, (.sil 0 (.sil 1 (.sil 2 (.sil 3 (.sil 4 (.sil 5 (.sil 6 (.sil 7 (.sil 9 (.sil 10 (.eff 8 (.eff 11 (.sil 12 (.sil 13 (.eff 14 (.sil 15 (.sil 16 (.eff 17 .stop))))))))))))))))))),
  (78, 4, (.sil 0 (.sil 1 (.sil 2 (.sil 5 (.sil 6 (.eff 3 (.sil 4 (.sil 7 (.sil 8 .stop)))))))))),
  (82, 7, (.sil 0 (.sil 2 (.eff 1 (.eff 3 (.sil 4 (.sil 5 (.sil 6 (.sil 7 (.sil 8 (.sil 10 (.sil 11 (.eff 9 (.sil 12 (.sil 13 .stop))))))))))))))),
  (83, 2, (.sil 0 (.sil 1 (.sil 2 (.sil 3 (.sil 4 (.eff 5 (.eff 6 (.eff 7 (.sil 8 .stop)))))))))),
  (83, 4, (.sil 0 (.sil 1 (.sil 3 (.eff 2 (.eff 4 (.eff 5 (.sil 6 .stop)))))))),
  (91, 1, (.sil 0 (.sil 1 (.sil 3 (.sil 4 (.sil 6 (.sil 7 (.sil 9 (.sil 10 (.eff 2 (.sil 12 (.eff 5 (.eff 8 (.eff 11 (.eff 13 (.sil 14 (.eff 15 (.sil 16 (.eff 17 (.sil 18 (.eff 19 .stop))))))))))))))))))))),
  (91, 9, (.sil 0 (.sil 1 (.sil 2 (.sil 3 (.sil 4 (.sil 5 (.sil 7 (.sil 8 (.eff 6 (.eff 9 (.sil 10 (.sil 11 (.eff 12 (.sil 13 (.sil 14 (.eff 15 .stop))))))))))))))))),
  (91, 11, (.sil 0 (.sil 1 (.sil 2 (.sil 3 (.sil 4 (.sil 5 (.sil 6 (.sil 7 (.sil 9 (.eff 8 (.sil 10 (.sil 11 (.eff 12 (.sil 13 (.sil 14 (.eff 15 .stop))))))))))))))))),
  (94, 1, (.sil 0 (.sil 1 (.sil 3 (.sil 4 (.eff 2 (.sil 6 (.eff 5 (.eff 7 (.sil 8 (.eff 9 .stop))))))))))),
  (96, 6, (.sil 0 (.sil 1 (.sil 2 (.sil 3 (.sil 4 (.sil 5 (.sil 6 (.sil 7 (.sil 8 .stop)))))))))),
  (97, 6, (.sil 0 (.sil 1 (.sil 2 (.sil 3 (.sil 4 (.sil 5 (.sil 6 (.sil 7 (.sil 8 .stop)))))))))),
  (105, 1, (.sil 0 (.sil 1 (.sil 2 (.sil 3 (.sil 4 (.sil 5 (.sil 6 (.sil 7 (.sil 8 (.sil 9 (.sil 10 (.sil 11 (.sil 12 (.sil 13 (.alt (.eff 14 (.eff 15 (.eff 16 (.eff 17 .stop)))) (.eff 15 (.eff 14 (.eff 16 (.eff 17 .stop)))))))))))))))))))),
  (105, 5, (.sil 0 (.sil 1 (.sil 2 (.sil 3 (.sil 4 (.sil 5 (.sil 6 .stop)))))))),
  (105, 7, (.sil 0 (.sil 1 (.sil 2 (.sil 3 (.sil 4 (.sil 5 (.sil 6 .stop)))))))),
  (108, 1, (.sil 0 (.sil 1 (.sil 2 (.sil 3 (.sil 5 (.sil 6 (.sil 7 (.sil 8 (.sil 10 (.sil 11 (.sil 12 (.sil 13 (.eff 4 (.eff 9 (.eff 14 (.eff 15 (.eff 16 (.sil 17 .stop))))))))))))))))))),
  (113, 16, (.sil 0 (.sil 1 (.sil 2 (.sil 3 (.sil 4 (.sil 5 (.sil 6 (.sil 7 (.sil 8 (.sil 9 (.sil 10 (.sil 11 (.sil 12 (.sil 13 (.sil 14 (.sil 15 (.sil 16 .stop)))))))))))))))))),
  (113, 17, (.sil 0 (.sil 1 (.sil 2 (.sil 3 (.sil 4 (.sil 5 (.sil 6 (.sil 7 (.sil 8 (.sil 9 (.sil 10 (.sil 11 (.sil 12 (.sil 13 (.sil 14 (.sil 15 (.sil 16 (.sil 17 (.sil 18 (.sil 19 (.sil 20 (.sil 21 (.sil 22 (.sil 23 .stop))))))))))))))))))))))))),
  (114, 4, (.sil 0 (.sil 1 (.sil 3 (.sil 4 (.eff 2 (.sil 5 .stop))))))),
  (114, 7, (.sil 0 (.sil 1 (.sil 2 (.sil 3 (.sil 4 (.sil 5 (.sil 7 (.eff 6 (.eff 8 (.sil 9 (.eff 10 (.sil 11 (.eff 12 .stop)))))))))))))),
  (115, 9, (.sil 0 (.sil 1 (.eff 2 (.sil 3 (.sil 4 (.sil 5 (.sil 6 (.sil 7 (.sil 9 (.sil 10 (.eff 8 (.sil 11 (.sil 12 .stop)))))))))))))),
  (115, 11, (.sil 0 (.sil 1 (.sil 3 (.eff 2 (.eff 4 (.eff 5 (.sil 6 .stop)))))))),
  (116, 8, (.sil 0 (.sil 1 (.sil 3 (.eff 2 (.eff 4 (.eff 5 (.sil 6 .stop)))))))),
  (117, 2, (.sil 1 (.sil 2 (.sil 4 (.alt (.eff 0 (.alt (.eff 3 (.eff 5 (.eff 6 (.sil 7 (.eff 8 .stop))))) (.eff 5 (.eff 3 (.eff 6 (.sil 7 (.eff 8 .stop))))))) (.eff 5 (.eff 0 (.eff 3 (.eff 6 (.sil 7 (.eff 8 .stop))))))))))),
  (118, 6, (.sil 0 (.sil 1 (.sil 2 (.sil 3 (.sil 4 (.sil 5 (.eff 6 (.sil 7 (.sil 8 (.sil 9 (.sil 10 (.sil 11 (.sil 12 (.sil 13 (.sil 14 (.sil 15 (.sil 16 (.sil 17 (.sil 18 (.sil 19 (.sil 20 (.sil 21 (.sil 22 (.sil 23 (.sil 24 (.sil 25 (.sil 26 (.sil 27 (.sil 28 (.sil 29 (.sil 30 (.sil 31 (.sil 32 (.sil 33 (.sil 34 (.sil 35 (.sil 36 .stop)))))))))))))))))))))))))))))))))))))),
  (118, 11, (.sil 0 (.sil 1 (.sil 2 (.sil 3 (.sil 4 (.eff 5 (.sil 6 (.sil 7 (.sil 8 (.sil 9 (.sil 10 (.sil 11 (.sil 12 (.sil 13 (.sil 14 (.sil 15 (.sil 16 (.sil 17 (.sil 18 (.sil 19 (.sil 20 (.sil 21 (.sil 22 (.sil 23 (.eff 24 (.sil 25 (.sil 26 (.sil 27 .stop))))))))))))))))))))))))))))),
  (121, 3, (.sil 0 (.sil 1 (.sil 2 (.sil 4 (.sil 5 (.sil 6 (.sil 8 (.sil 9 (.sil 10 (.sil 12 (.sil 13 (.sil 14 (.eff 3 (.eff 7 (.eff 11 (.eff 15 (.sil 16 .stop)))))))))))))))))),
  (121, 4, (.sil 0 (.sil 1 (.sil 2 (.sil 5 (.sil 6 (.sil 7 (.eff 3 (.eff 4 (.eff 8 (.sil 9 .stop))))))))))),
  (121, 8, (.sil 0 (.sil 1 (.sil 2 (.sil 3 (.sil 4 (.sil 5 (.sil 6 (.sil 8 (.sil 9 (.sil 10 (.sil 11 (.sil 12 (.sil 13 (.eff 7 (.eff 14 (.sil 15 .stop))))))))))))))))),
  (121, 9, (.sil 0 (.sil 1 (.sil 2 (.sil 4 (.sil 5 (.eff 3 (.eff 6 (.sil 7 .stop))))))))),
  (125, 18, (.sil 0 (.sil 3 (.sil 4 (.sil 5 (.sil 6 (.eff 1 (.sil 2 (.sil 7 .stop))))))))),
  (128, 8, (.sil 0 (.sil 1 (.sil 2 (.sil 3 (.sil 4 (.sil 5 (.sil 6 (.sil 7 (.sil 8 (.sil 9 (.sil 10 (.sil 11 (.sil 12 (.sil 13 (.sil 14 (.sil 15 (.eff 16 .stop)))))))))))))))))),
  (129, 6, (.sil 0 (.sil 1 (.sil 2 (.sil 3 (.sil 4 (.sil 5 (.sil 6 (.sil 7 (.sil 8 .stop)))))))))),
  (130, 5, (.sil 0 (.sil 1 (.sil 2 (.sil 3 (.sil 4 (.sil 5 (.sil 6 (.sil 7 (.sil 8 (.sil 9 (.sil 10 (.sil 11 (.eff 12 (.eff 13 (.sil 14 .stop)))))))))))))))),
  (132, 11, (.sil 0 (.sil 1 (.sil 2 (.sil 3 (.sil 4 (.eff 5 (.sil 6 (.sil 7 (.sil 8 (.sil 9 (.sil 10 (.sil 11 (.eff 12 (.sil 13 (.sil 14 .stop)))))))))))))))),
  (132, 13, (.sil 0 (.sil 1 (.sil 2 (.sil 3 (.sil 4 (.eff 5 (.sil 6 (.sil 7 (.sil 8 (.sil 9 (.sil 10 (.sil 11 (.eff 12 (.sil 13 (.sil 14 .stop)))))))))))))))),
  (132, 15, (.sil 0 (.sil 1 (.sil 2 (.sil 3 (.sil 4 (.eff 5 (.sil 6 (.sil 7 .stop))))))))),
  (133, 5, (.sil 0 (.sil 1 (.sil 2 (.sil 3 (.sil 4 (.sil 5 (.sil 6 (.sil 7 (.sil 8 (.sil 9 (.sil 10 (.sil 11 (.sil 12 (.sil 13 (.sil 14 (.eff 15 (.sil 16 (.sil 17 .stop))))))))))))))))))),
  (134, 9, (.sil 0 (.sil 1 (.sil 2 (.sil 3 (.sil 4 (.sil 5 (.sil 6 (.sil 7 (.sil 8 (.sil 9 (.sil 10 (.sil 11 .stop))))))))))))),
  (134, 11, (.sil 0 (.sil 1 (.sil 2 (.sil 3 (.sil 4 (.sil 5 (.sil 6 (.sil 7 .stop))))))))),
  (135, 1, (.sil 0 (.sil 1 (.sil 2 (.sil 3 (.sil 4 (.eff 5 (.eff 6 (.sil 7 .stop))))))))),
  (135, 8, (.sil 0 (.sil 1 (.sil 2 (.sil 3 (.sil 4 (.sil 5 (.sil 6 (.sil 7 (.sil 8 (.sil 9 (.sil 10 (.sil 11 .stop))))))))))))),
  (135, 10, (.sil 0 (.sil 1 (.sil 2 (.sil 3 (.sil 4 (.sil 5 (.sil 6 (.sil 7 .stop))))))))),
  (136, 6, (.sil 0 (.sil 1 (.sil 2 (.sil 3 (.sil 4 (.sil 5 (.sil 6 (.sil 7 (.sil 8 .stop)))))))))),
  (137, 6, (.sil 0 (.sil 1 (.sil 2 (.sil 3 (.sil 4 (.sil 5 (.eff 6 (.sil 7 (.sil 8 (.sil 9 (.sil 10 (.sil 11 (.sil 12 (.sil 13 (.eff 14 (.sil 15 (.sil 16 .stop)))))))))))))))))),
  (142, 1, (.sil 0 (.sil 1 (.sil 2 (.sil 3 (.sil 4 (.eff 5 (.sil 6 (.sil 7 (.sil 8 (.sil 9 (.eff 10 (.sil 11 (.sil 12 .stop)))))))))))))),
  (145, 5, (.sil 0 (.sil 1 (.sil 2 (.sil 3 (.sil 4 (.eff 5 (.sil 6 .stop)))))))),
  (148, 11, (.sil 0 (.sil 1 (.sil 2 (.sil 3 (.sil 4 (.sil 5 (.sil 6 (.sil 7 (.eff 8 .stop)))))))))),
  (148, 15, (.sil 0 (.sil 1 (.sil 2 (.sil 3 (.sil 4 (.sil 5 (.sil 6 (.sil 7 (.eff 8 .stop)))))))))),
  (158, 1, (.sil 0 (.sil 1 (.sil 2 (.sil 5 (.eff 3 (.eff 4 (.eff 6 (.sil 7 (.sil 8 .stop)))))))))),
  (159, 1, (.sil 0 (.sil 1 (.sil 2 (.sil 4 (.sil 5 (.sil 6 (.sil 7 (.sil 8 (.sil 9 (.eff 3 (.sil 10 (.eff 11 (.sil 12 (.eff 13 (.sil 14 (.eff 15 .stop))))))))))))))))),
  (159, 4, (.sil 0 (.sil 1 (.sil 2 (.sil 3 (.sil 4 (.sil 5 (.sil 6 (.sil 7 (.sil 8 (.sil 9 (.sil 10 (.sil 11 (.sil 12 (.sil 13 (.eff 14 (.sil 15 (.sil 16 (.eff 17 .stop))))))))))))))))))),
  (168, 3, (.sil 0 (.sil 1 (.sil 2 (.sil 3 (.sil 4 (.sil 5 (.sil 6 (.sil 7 (.sil 8 (.sil 9 (.sil 10 (.sil 11 (.sil 12 (.eff 13 (.sil 14 (.eff 15 .stop))))))))))))))))),
  (170, 3, (.sil 0 (.sil 1 (.sil 2 (.sil 3 (.sil 4 (.sil 5 (.sil 6 (.sil 7 (.sil 8 (.alt (.eff 9 (.sil 10 (.sil 11 (.sil 12 (.eff 13 (.eff 14 (.sil 15 .stop))))))) (.eff 13 (.eff 9 (.sil 10 (.sil 11 (.sil 12 (.eff 14 (.sil 15 .stop)))))))))))))))))),
  (170, 5, (.sil 0 (.sil 1 (.sil 2 (.sil 3 (.alt (.eff 4 (.sil 5 (.sil 6 (.sil 7 (.eff 8 (.eff 9 (.sil 10 .stop))))))) (.eff 8 (.eff 4 (.sil 5 (.sil 6 (.sil 7 (.eff 9 (.sil 10 .stop))))))))))))),
  (171, 6, (.sil 0 (.sil 1 (.sil 2 (.sil 3 (.sil 4 (.sil 5 (.sil 6 (.sil 7 (.sil 8 .stop)))))))))),
  (173, 6, (.sil 0 (.sil 1 (.sil 2 (.sil 3 (.sil 4 (.sil 5 (.sil 6 (.sil 7 (.sil 8 .stop)))))))))),
  (174, 6, (.sil 0 (.sil 1 (.sil 2 (.sil 3 (.sil 4 (.sil 5 (.sil 6 (.sil 7 (.sil 8 (.sil 9 (.sil 10 (.sil 12 (.sil 13 (.sil 14 (.sil 15 (.sil 16 (.sil 17 (.sil 18 (.sil 19 (.eff 11 (.eff 20 (.eff 21 (.eff 22 (.sil 23 (.sil 24 .stop)))))))))))))))))))))))))),
  (180, 7, (.sil 0 (.sil 1 (.sil 2 (.sil 3 (.sil 4 (.sil 5 (.sil 6 (.sil 7 (.sil 8 (.sil 9 (.sil 10 (.eff 11 (.sil 12 (.sil 13 (.sil 14 (.sil 15 (.eff 16 (.eff 17 (.sil 18 .stop)))))))))))))))))))),
  (180, 9, (.sil 0 (.sil 1 (.sil 2 (.sil 3 (.sil 4 (.eff 5 (.sil 6 (.sil 7 (.sil 8 (.sil 9 (.eff 10 (.eff 11 (.sil 12 .stop)))))))))))))),
  (180, 13, (.sil 0 (.sil 1 (.sil 2 (.sil 3 (.sil 4 (.sil 5 (.sil 6 (.eff 7 (.eff 8 (.eff 9 (.sil 10 (.sil 11 (.sil 12 (.eff 13 .stop))))))))))))))),
  (181, 4, (.sil 0 (.sil 1 (.sil 2 (.sil 3 (.sil 4 (.alt (.eff 5 (.sil 6 (.sil 7 (.sil 8 (.eff 9 (.eff 10 (.sil 11 .stop))))))) (.eff 9 (.eff 5 (.sil 6 (.sil 7 (.sil 8 (.eff 10 (.sil 11 .stop)))))))))))))),
  (182, 1, (.sil 0 (.sil 1 (.sil 2 (.sil 3 (.sil 4 (.sil 5 (.sil 6 (.sil 7 (.sil 8 (.eff 9 (.sil 10 .stop)))))))))))),
  (182, 6, (.sil 0 (.sil 1 (.sil 2 (.sil 3 (.sil 4 (.sil 5 (.sil 6 (.sil 7 (.sil 8 (.sil 9 (.alt (.eff 10 (.sil 11 (.sil 12 (.sil 13 (.eff 14 (.eff 15 (.sil 16 .stop))))))) (.eff 14 (.eff 10 (.sil 11 (.sil 12 (.sil 13 (.eff 15 (.sil 16 .stop))))))))))))))))))),
  (182, 9, (.sil 0 (.sil 1 (.sil 2 (.sil 3 (.sil 4 (.sil 5 (.eff 6 (.sil 7 (.sil 8 (.sil 9 (.sil 10 (.sil 11 .stop))))))))))))),
  (182, 12, (.sil 0 (.sil 1 (.sil 2 (.sil 3 (.sil 4 (.sil 5 (.sil 6 (.sil 7 (.sil 8 (.sil 9 (.sil 10 (.sil 11 (.sil 12 (.eff 13 (.sil 14 (.sil 15 (.sil 16 (.sil 17 (.sil 18 (.sil 19 (.eff 20 (.sil 21 .stop))))))))))))))))))))))),
  (183, 1, (.sil 0 (.sil 1 (.sil 2 (.sil 3 (.sil 4 (.sil 5 (.sil 6 (.alt (.eff 7 (.sil 8 (.sil 9 (.sil 10 (.sil 11 (.eff 12 (.sil 13 (.eff 14 (.sil 15 .stop))))))))) (.eff 12 (.eff 7 (.sil 8 (.sil 9 (.sil 10 (.sil 11 (.sil 13 (.eff 14 (.sil 15 .stop)))))))))))))))))),
  (183, 5, (.sil 0 (.sil 1 (.sil 3 (.sil 4 (.sil 5 (.sil 6 (.sil 7 (.alt (.eff 2 (.alt (.eff 8 (.sil 9 (.sil 10 (.sil 11 (.eff 12 (.eff 13 (.sil 14 .stop))))))) (.eff 12 (.eff 8 (.sil 9 (.sil 10 (.sil 11 (.eff 13 (.sil 14 .stop))))))))) (.eff 12 (.eff 2 (.eff 8 (.sil 9 (.sil 10 (.sil 11 (.eff 13 (.sil 14 .stop))))))))))))))))),
  (183, 11, (.sil 0 (.sil 1 (.sil 2 (.sil 3 (.alt (.eff 4 (.sil 5 (.sil 6 (.sil 7 (.eff 8 (.eff 9 (.sil 10 .stop))))))) (.eff 8 (.eff 4 (.sil 5 (.sil 6 (.sil 7 (.eff 9 (.sil 10 .stop))))))))))))),
  (184, 4, (.sil 0 (.sil 1 (.sil 2 (.sil 3 (.sil 4 (.sil 5 (.sil 6 (.eff 7 (.sil 8 (.sil 9 (.sil 10 (.sil 11 (.sil 12 .stop)))))))))))))),
  (184, 6, (.sil 0 (.sil 1 (.sil 2 (.sil 3 (.sil 4 (.sil 5 (.sil 6 (.eff 7 (.sil 8 (.sil 9 (.sil 10 (.sil 11 (.sil 12 .stop)))))))))))))),
  (184, 8, (.sil 0 (.sil 1 (.sil 2 (.sil 3 (.sil 4 (.sil 5 (.sil 6 (.sil 7 (.sil 8 (.eff 9 (.sil 10 (.sil 11 (.sil 12 (.sil 13 (.sil 14 .stop)))))))))))))))),
  (195, 1, (.sil 0 (.sil 1 (.sil 2 (.sil 3 (.sil 4 (.sil 6 (.sil 7 (.sil 8 (.eff 5 (.sil 9 (.sil 10 (.sil 11 (.sil 12 (.eff 13 (.sil 14 (.sil 15 .stop))))))))))))))))),
  (200, 9, (.sil 0 (.sil 1 (.sil 2 (.sil 3 (.sil 4 (.eff 5 (.sil 6 (.sil 7 .stop))))))))),
  (201, 7, (.sil 0 (.sil 1 (.sil 2 (.sil 3 (.sil 4 (.sil 5 (.sil 6 (.sil 7 (.sil 8 (.sil 9 (.sil 10 (.sil 11 (.sil 12 (.sil 13 (.sil 14 (.sil 15 (.sil 16 (.sil 17 (.sil 18 (.sil 19 (.sil 20 (.sil 21 (.sil 22 (.sil 23 (.sil 24 (.sil 25 (.sil 26 (.sil 27 (.sil 28 (.sil 29 (.sil 30 (.sil 31 (.sil 32 (.sil 33 .stop))))))))))))))))))))))))))))))))))),
  (203, 2, (.sil 0 (.sil 1 (.sil 2 (.sil 3 (.sil 4 (.sil 5 (.sil 6 (.eff 7 (.sil 8 (.eff 9 .stop))))))))))),
  (203, 4, (.sil 0 (.sil 1 (.sil 2 (.sil 3 (.sil 4 (.sil 5 (.sil 6 (.sil 8 (.sil 9 (.sil 10 (.eff 7 (.sil 11 (.eff 12 (.sil 13 (.eff 14 .stop)))))))))))))))),
  (211, 7, (.sil 0 (.sil 1 (.sil 2 (.sil 3 (.sil 4 (.sil 5 (.sil 6 (.sil 7 (.sil 9 (.sil 10 (.eff 8 (.eff 11 (.sil 12 (.sil 13 .stop))))))))))))))),
  (211, 14, (.sil 0 (.sil 1 (.sil 2 (.sil 3 (.sil 4 (.sil 5 (.sil 6 (.sil 7 (.sil 8 (.sil 9 .stop))))))))))),
  (213, 6, (.sil 0 (.sil 1 (.sil 2 (.sil 3 (.sil 4 (.sil 5 (.sil 6 (.sil 7 (.sil 8 .stop)))))))))),
  (215, 1, (.sil 0 (.sil 2 (.eff 1 (.eff 3 (.sil 4 .stop)))))),
  (217, 11, (.sil 0 (.sil 1 (.sil 2 (.sil 3 (.sil 4 (.sil 5 (.sil 6 (.sil 7 (.eff 8 .stop)))))))))),
  (217, 15, (.sil 0 (.sil 1 (.sil 2 (.sil 3 (.sil 4 (.sil 5 (.sil 6 (.sil 7 (.eff 8 .stop)))))))))),
  (233, 8, (.sil 0 (.sil 1 (.sil 2 (.sil 3 (.sil 4 (.eff 5 (.eff 6 (.sil 7 .stop))))))))),
  (233, 13, (.sil 0 (.sil 1 (.sil 2 (.sil 3 (.sil 4 (.sil 6 (.sil 7 (.sil 8 (.sil 9 (.sil 10 (.sil 11 (.eff 5 (.sil 12 (.eff 13 (.sil 14 .stop)))))))))))))))),
  (234, 1, (.sil 0 (.sil 1 (.sil 3 (.sil 4 (.eff 2 (.sil 6 (.eff 5 (.eff 7 (.sil 8 (.eff 9 .stop))))))))))),
  (234, 4, (.sil 0 (.sil 1 (.eff 2 (.sil 3 (.eff 4 (.sil 5 .stop))))))),
  (234, 13, (.sil 0 (.sil 1 (.sil 2 (.sil 3 (.sil 4 (.sil 5 (.sil 6 (.eff 7 (.sil 8 (.sil 9 (.sil 10 (.sil 11 (.sil 12 (.sil 13 (.sil 14 (.sil 15 (.sil 16 (.eff 17 (.sil 18 (.sil 19 .stop))))))))))))))))))))),
  (234, 18, (.sil 0 (.sil 1 (.sil 2 (.sil 3 (.sil 4 (.sil 5 (.sil 6 (.sil 7 .stop))))))))),
  (234, 19, (.sil 0 (.sil 1 (.sil 2 (.sil 3 (.sil 4 (.sil 5 (.sil 6 (.sil 7 (.sil 8 (.sil 9 (.sil 10 (.eff 11 .stop))))))))))))),
  (236, 9, (.sil 0 (.sil 1 (.sil 2 (.sil 3 (.sil 4 (.sil 5 (.sil 6 (.eff 7 (.sil 8 (.sil 9 .stop))))))))))),
  (241, 5, (.sil 0 (.sil 1 (.sil 2 (.sil 3 (.sil 5 (.eff 4 (.sil 6 (.eff 7 (.sil 8 .stop)))))))))),
  (256, 1, (.sil 0 (.sil 1 (.sil 3 (.sil 4 (.sil 6 (.sil 7 (.sil 8 (.sil 9 (.sil 10 (.eff 2 (.eff 5 (.eff 11 (.eff 12 (.eff 13 (.sil 14 .stop)))))))))))))))),
  (258, 3, (.sil 0 (.sil 1 (.eff 2 (.eff 3 (.sil 4 (.eff 5 .stop))))))),
  (263, 4, (.sil 0 (.sil 1 (.sil 2 (.sil 3 (.sil 4 (.sil 5 (.sil 6 (.sil 7 (.sil 8 (.sil 9 (.sil 10 (.sil 11 (.sil 12 (.sil 13 (.sil 14 (.sil 15 (.sil 16 (.sil 17 (.sil 18 (.sil 19 (.eff 20 (.sil 21 (.sil 22 (.sil 23 (.sil 24 (.sil 25 (.sil 26 (.sil 27 (.sil 28 (.sil 29 (.sil 30 (.sil 31 (.sil 32 (.sil 33 (.sil 34 (.sil 35 (.sil 36 (.sil 37 (.sil 38 (.sil 39 (.sil 40 .stop)))))))))))))))))))))))))))))))))))))))))),
  (276, 1, (.sil 0 (.sil 1 (.sil 2 (.sil 3 (.sil 4 (.sil 5 (.sil 6 (.sil 8 (.eff 7 (.eff 9 (.eff 10 (.sil 11 (.sil 12 (.sil 13 (.eff 14 .stop)))))))))))))))),
  (277, 0, (.sil 0 (.sil 1 (.sil 2 (.sil 3 (.sil 4 (.sil 5 (.sil 6 (.sil 7 (.sil 8 (.sil 9 (.eff 10 (.sil 11 .stop))))))))))))),
  (278, 1, (.sil 0 (.sil 1 (.sil 2 (.sil 3 (.sil 4 (.sil 5 (.sil 6 (.sil 7 (.sil 8 (.sil 9 (.sil 10 (.sil 11 (.sil 12 (.eff 13 .stop))))))))))))))),
  (278, 3, (.sil 0 (.sil 1 (.sil 2 (.sil 3 (.sil 4 (.sil 5 (.sil 7 (.sil 8 (.eff 6 (.eff 9 (.sil 10 (.sil 11 .stop))))))))))))),
  (278, 4, (.sil 0 (.sil 1 (.sil 2 (.sil 3 (.sil 4 (.sil 5 (.sil 6 (.sil 7 (.sil 8 (.eff 9 (.eff 10 (.sil 11 (.sil 12 (.sil 13 (.sil 14 (.eff 15 (.sil 16 (.sil 17 (.sil 18 (.sil 19 (.sil 20 (.sil 21 (.sil 22 (.sil 23 (.sil 24 (.sil 25 .stop))))))))))))))))))))))))))),
  (278, 5, (.sil 0 (.sil 1 (.sil 2 (.sil 3 (.sil 4 (.sil 5 (.sil 6 (.eff 7 (.sil 8 (.sil 9 (.sil 10 (.eff 11 .stop))))))))))))),
  (278, 6, (.sil 0 (.sil 1 (.sil 2 (.sil 3 (.sil 4 (.sil 5 (.sil 6 (.sil 7 (.sil 8 (.sil 9 (.sil 10 (.eff 11 (.sil 12 (.sil 13 (.sil 14 (.eff 15 .stop))))))))))))))))),
  (281, 5, (.sil 0 (.sil 1 (.sil 2 (.sil 3 (.sil 4 (.sil 7 (.sil 8 (.eff 5 (.eff 6 (.eff 9 (.sil 10 .stop)))))))))))),
  (284, 5, (.sil 0 (.sil 1 (.sil 2 (.sil 3 (.sil 4 (.sil 5 (.eff 6 (.sil 7 .stop))))))))),
  (285, 5, (.sil 0 (.sil 1 (.sil 2 (.sil 3 (.eff 4 (.eff 5 (.eff 6 (.sil 7 (.eff 8 .stop)))))))))),
  (285, 9, (.sil 0 (.sil 1 (.sil 2 (.eff 3 (.eff 4 (.eff 5 (.sil 6 (.eff 7 .stop))))))))),
  (288, 15, (.sil 0 (.sil 1 (.eff 2 (.eff 3 (.sil 4 .stop)))))),
  (288, 16, (.sil 0 (.sil 1 (.eff 2 (.eff 3 (.sil 4 .stop)))))),
  (291, 21, (.sil 0 (.sil 1 (.sil 2 (.sil 3 (.sil 4 (.sil 5 .stop))))))),
  (292, 3, (.sil 0 (.sil 1 (.eff 2 (.eff 3 (.sil 4 (.eff 5 .stop))))))),
  (293, 1, (.sil 0 (.sil 1 (.sil 2 (.sil 3 (.sil 4 (.sil 5 (.sil 6 (.sil 7 (.sil 8 (.sil 9 (.sil 10 (.sil 11 (.sil 12 (.sil 13 (.sil 14 (.sil 15 (.sil 16 (.sil 17 (.sil 18 (.sil 19 (.sil 20 (.sil 21 (.sil 22 (.sil 23 (.sil 24 (.sil 25 (.sil 26 (.sil 27 (.sil 28 (.sil 29 (.sil 30 (.sil 31 (.sil 32 (.sil 33 (.sil 34 (.sil 35 (.sil 36 (.sil 37 (.sil 38 (.sil 39 (.sil 40 (.sil 41 (.sil 42 (.sil 43 (.sil 44 .stop)))))))))))))))))))))))))))))))))))))))))))))),
  (295, 3, (.sil 0 (.sil 1 (.sil 2 (.sil 3 (.sil 4 (.sil 5 (.sil 6 (.sil 7 (.sil 8 (.sil 9 (.sil 10 (.sil 11 (.sil 12 (.eff 13 (.sil 14 (.eff 15 .stop))))))))))))))))),
  (296, 4, (.sil 0 (.sil 1 (.sil 2 (.sil 4 (.sil 5 (.eff 3 (.eff 6 (.sil 7 .stop))))))))),
  (299, 3, (.sil 0 (.sil 1 (.sil 2 (.sil 4 (.sil 5 (.eff 3 (.eff 6 (.eff 7 (.eff 8 (.sil 9 .stop))))))))))),
  (301, 1, (.sil 0 (.sil 1 (.sil 2 (.sil 3 (.sil 4 (.sil 5 (.sil 6 (.sil 7 (.sil 8 .stop)))))))))),
  (304, 4, (.sil 0 (.sil 1 (.sil 2 (.sil 3 (.sil 4 (.sil 5 .stop))))))),
  (307, 18, (.sil 0 (.sil 1 (.sil 2 (.sil 4 (.sil 5 (.eff 3 (.eff 6 (.sil 7 .stop))))))))),
  (310, 6, (.sil 0 (.sil 1 (.sil 2 (.sil 4 (.sil 6 (.sil 8 (.eff 3 (.eff 5 (.eff 7 (.eff 9 (.sil 10 (.sil 11 (.eff 12 (.eff 13 (.sil 14 (.eff 15 .stop))))))))))))))))),
  (310, 9, (.sil 0 (.sil 1 (.sil 2 (.eff 3 (.eff 4 (.eff 5 (.sil 6 (.eff 7 .stop))))))))),
  (313, 2, (.sil 0 (.sil 1 (.eff 2 (.eff 3 (.sil 4 .stop)))))),
  (314, 2, (.sil 0 (.sil 1 (.eff 2 (.eff 3 (.sil 4 .stop)))))),
  (314, 3, (.sil 0 (.sil 1 (.sil 2 (.sil 3 (.sil 4 (.sil 5 (.sil 6 (.sil 7 (.sil 8 (.sil 9 (.sil 10 (.sil 11 (.eff 12 (.sil 13 (.sil 14 (.eff 15 .stop))))))))))))))))),
  (318, 11, (.sil 0 (.sil 1 (.sil 2 (.sil 3 (.sil 4 (.sil 5 (.sil 6 (.sil 7 (.sil 8 (.sil 9 (.sil 10 (.sil 11 (.sil 12 (.sil 13 (.sil 14 (.sil 15 (.sil 16 (.sil 17 (.sil 18 (.sil 19 (.sil 20 (.sil 21 (.sil 22 (.sil 23 .stop))))))))))))))))))))))))),
  (318, 15, (.sil 0 (.sil 1 (.sil 2 (.sil 3 (.sil 4 (.sil 5 (.sil 6 (.sil 7 (.sil 8 (.sil 9 (.sil 10 (.sil 11 (.sil 12 (.eff 13 .stop))))))))))))))),
  (319, 3, (.sil 0 (.sil 1 (.sil 2 (.sil 3 (.sil 4 (.sil 5 (.sil 6 (.sil 7 (.sil 8 (.sil 9 (.sil 10 (.sil 11 (.sil 12 (.eff 13 (.sil 14 (.eff 15 .stop))))))))))))))))),
  (327, 4, (.sil 0 (.sil 1 (.sil 2 (.sil 3 (.sil 4 (.sil 5 (.sil 6 (.sil 7 (.sil 8 (.sil 9 (.sil 10 (.sil 11 (.sil 12 (.sil 13 (.eff 14 (.sil 15 (.sil 16 .stop)))))))))))))))))),
  (327, 6, (.sil 0 (.sil 1 (.sil 2 (.sil 3 (.sil 4 (.sil 5 (.sil 6 (.sil 7 (.sil 8 (.sil 9 (.sil 10 (.sil 11 (.sil 12 (.sil 13 (.sil 14 (.eff 15 (.sil 16 (.eff 17 .stop))))))))))))))))))),
  (328, 5, (.sil 0 (.sil 1 (.sil 2 (.sil 3 (.sil 4 (.sil 5 (.sil 6 (.sil 7 (.sil 8 (.eff 9 (.sil 10 .stop)))))))))))),
  (328, 11, (.sil 0 (.sil 1 (.sil 2 (.sil 3 (.sil 4 (.sil 5 (.sil 6 (.sil 7 (.sil 8 (.sil 9 (.sil 10 (.sil 11 (.sil 12 (.sil 13 (.sil 14 (.eff 15 (.sil 16 (.eff 17 .stop))))))))))))))))))),
  (328, 17, (.sil 0 (.sil 1 (.sil 2 (.sil 3 (.sil 4 (.sil 5 (.sil 6 (.sil 7 (.sil 8 (.eff 9 (.sil 10 (.sil 11 .stop))))))))))))),
  (328, 23, (.sil 0 (.sil 1 (.sil 2 (.sil 3 (.sil 4 (.sil 5 (.sil 6 (.sil 7 (.sil 8 (.sil 9 (.sil 10 (.sil 11 (.sil 12 (.sil 13 (.sil 14 (.eff 15 (.sil 16 (.eff 17 .stop))))))))))))))))))),
  (328, 35, (.sil 0 (.sil 1 (.sil 2 (.sil 3 (.sil 4 (.sil 5 (.sil 6 (.sil 7 (.sil 8 (.sil 9 (.sil 10 (.eff 11 (.sil 12 (.sil 13 .stop))))))))))))))),
  (330, 4, (.sil 0 (.sil 1 (.sil 2 (.sil 3 (.sil 4 (.eff 5 (.sil 6 (.sil 7 (.sil 8 (.sil 9 (.sil 10 (.sil 11 (.sil 12 (.sil 13 (.sil 14 (.sil 15 (.sil 16 (.sil 17 (.sil 18 (.sil 19 (.eff 20 (.sil 21 (.sil 22 (.sil 23 .stop))))))))))))))))))))))))),
  (335, 4, (.sil 0 (.sil 1 (.sil 2 (.sil 3 (.sil 4 (.eff 5 (.sil 6 (.sil 7 (.sil 10 (.sil 11 (.sil 12 (.sil 13 (.sil 14 (.sil 15 (.sil 16 (.eff 8 (.sil 9 (.sil 17 (.sil 18 .stop)))))))))))))))))))),
  (335, 6, (.sil 0 (.sil 1 (.sil 2 (.sil 3 (.sil 4 (.eff 5 (.sil 6 (.sil 7 .stop))))))))),
  (346, 8, (.sil 0 (.sil 1 (.sil 2 (.sil 4 (.eff 3 (.eff 5 (.sil 6 (.eff 7 (.eff 8 (.sil 9 (.eff 10 .stop)))))))))))),
  (347, 3, (.sil 0 (.sil 1 (.sil 2 (.sil 3 (.sil 4 (.sil 5 (.sil 6 (.sil 7 (.sil 8 (.sil 9 (.sil 10 (.sil 11 (.sil 12 (.sil 13 (.sil 14 (.sil 15 (.sil 16 (.sil 17 (.sil 18 (.sil 19 (.sil 20 (.sil 21 (.sil 22 (.sil 23 (.sil 24 (.sil 25 (.sil 26 (.sil 27 (.sil 28 (.sil 29 (.sil 30 (.sil 31 (.sil 32 (.sil 33 (.sil 34 (.sil 35 (.sil 36 (.sil 37 (.sil 38 .stop)))))))))))))))))))))))))))))))))))))))),
  (347, 7, (.sil 0 (.sil 1 (.sil 2 (.sil 3 (.sil 4 (.sil 5 (.sil 6 (.sil 7 (.sil 8 (.sil 9 (.sil 10 (.sil 11 (.sil 12 .stop)))))))))))))),
  (349, 6, (.sil 0 (.sil 1 (.sil 2 (.sil 3 (.sil 4 (.sil 5 (.sil 6 .stop)))))))),
  (349, 7, (.sil 0 (.sil 1 (.sil 2 (.sil 3 (.sil 4 (.sil 5 (.sil 6 (.eff 7 (.sil 8 .stop)))))))))),
  (349, 14, (.sil 0 (.sil 1 (.sil 2 (.sil 3 (.sil 4 (.sil 5 (.sil 6 (.sil 7 (.sil 8 (.sil 9 (.sil 10 .stop)))))))))))),
  (349, 31, (.sil 0 (.sil 1 (.sil 2 (.sil 3 (.sil 4 (.sil 5 (.sil 6 (.sil 7 (.sil 8 (.sil 9 (.sil 10 .stop)))))))))))),
  (351, 3, (.sil 0 (.sil 1 (.sil 2 (.sil 3 (.sil 4 (.sil 5 (.sil 6 (.sil 7 (.sil 8 (.sil 9 (.sil 10 (.sil 11 (.sil 12 (.sil 13 (.sil 14 (.sil 15 (.sil 16 (.sil 17 (.sil 18 (.sil 19 (.sil 20 (.eff 21 (.sil 22 (.eff 23 .stop))))))))))))))))))))))))),
  (352, 3, (.sil 0 (.sil 1 (.sil 2 (.sil 3 (.sil 4 (.sil 5 (.sil 6 (.sil 7 (.sil 8 (.eff 9 (.sil 10 (.sil 11 (.sil 12 (.sil 13 (.sil 14 (.sil 15 (.sil 16 .stop)))))))))))))))))),
  (353, 3, (.sil 0 (.sil 1 (.sil 2 (.sil 3 (.sil 4 (.sil 5 (.sil 6 (.sil 7 (.sil 8 (.eff 9 (.sil 10 (.sil 11 (.sil 12 (.sil 13 (.sil 14 (.sil 15 (.sil 16 .stop))))))))))))))))))]
def Tryz.lives : List (Nat × Nat × List (Nat × Nat)) := [
  (3, 7, [(2, 7), (3, 7), (4, 0)]),
  (3, 12, [(3, 7), (5, 0)]),
  (4, 7, [(2, 0), (3, 0), (4, 9), (5, 0)]),
  (4, 17, [(2, 0), (3, 0), (4, 9), (6, 0)]),
  (5, 6, [(1, 0), (2, 0), (3, 10), (4, 0)]),
  (5, 15, [(1, 0), (2, 0), (7, 0), (8, 0), (9, 0)]),
  (7, 9, [(1, 0), (3, 10), (4, 3), (5, 0)]),
  (7, 16, [(1, 0), (8, 0)]),
  (10, 3, [(0, 7), (5, 3), (12, 0), (13, 0)]),
  (10, 7, [(0, 7), (5, 3), (6, 0), (7, 0), (12, 0), (13, 0), (16, 7), (17, 0), (18, 0)]),
  (14, 3, [(1, 0), (2, 0), (3, 0), (11, 10), (12, 0), (13, 0)]),
  (16, 5, [(0, 0), (3, 0), (8, 0), (10, 0), (11, 0)]),
  (19, 3, [(3, 0), (10, 9), (11, 0), (12, 0)]),
  (21, 3, [(1, 0), (2, 0), (3, 0), (4, 0)]),
  (24, 2, [(2, 6), (6, 10), (7, 0), (8, 0)]),
  (26, 5, [(0, 0), (1, 0), (6, 0), (37, 0), (38, 0)]),
  (33, 5, [(0, 0), (3, 0), (8, 0), (39, 0), (40, 0)]),
  (35, 1, [(0, 7), (1, 7), (4, 7)]),
  (41, 5, [(1, 0), (2, 0), (3, 0), (6, 0), (8, 0), (9, 0)]),
  (41, 11, [(2, 0), (3, 0), (6, 0), (8, 0), (10, 6), (11, 0)]),
  (41, 14, [(2, 0), (3, 0), (6, 0), (8, 0), (10, 6), (11, 0), (12, 0), (13, 0), (14, 0)]),
  (42, 3, [(1, 7), (5, 7), (6, 0)]),
  (42, 6, [(1, 7), (5, 7), (6, 0), (7, 0)]),
  (45, 6, [(3, 0), (23, 3), (24, 0), (25, 0)]),
  (51, 4, [(0, 0), (1, 4), (5, 0)]),
  (51, 13, [(0, 0), (7, 3), (8, 0)]),
  (52, 5, [(0, 0), (1, 0), (6, 0), (8, 0), (9, 0)]),
  (54, 2, [(0, 4), (1, 0), (2, 0), (7, 0)]),
  (55, 5, [(2, 0), (6, 3), (7, 0)]),
  (55, 10, [(2, 0), (6, 3), (7, 0), (8, 0), (9, 0)]),
  (55, 15, [(2, 0), (6, 3), (7, 0), (8, 0), (11, 0)]),
  (55, 20, [(2, 0), (6, 3), (12, 0)]),
  (58, 7, [(0, 3), (1, 0), (4, 0), (6, 0), (7, 0), (8, 0)]),
  (58, 13, [(0, 3), (1, 0), (4, 0), (6, 0), (7, 0), (8, 0), (9, 0), (10, 0)]),
  (58, 21, [(0, 3), (1, 0), (4, 0), (6, 0), (7, 0), (8, 0), (9, 0), (12, 0)]),
  (58, 26, [(0, 3), (1, 0), (4, 0), (6, 0), (7, 0), (13, 0)]),
  (59, 13, [(3, 0), (4, 0), (6, 0), (7, 0), (8, 0), (10, 0), (11, 0)]),
  (73, 2, [(2, 10), (6, 10), (7, 0), (8, 0)]),
  (76, 2, [(4, 10), (13, 10), (14, 0), (15, 0)]),
  (77, 3, [(1, 0), (2, 0), (3, 10), (11, 10), (12, 0), (13, 0)]),
  (77, 9, [(1, 0), (2, 0), (33, 7), (34, 0), (35, 0)]),
  (81, 2, [(2, 6), (5, 10), (6, 0), (7, 0)]),
  (87, 5, [(2, 0), (3, 0), (20, 4), (21, 0), (22, 0)]),
  (91, 3, [(1, 0), (2, 0), (25, 9), (26, 0), (27, 0)]),
  (91, 7, [(1, 0), (2, 0), (3, 0), (4, 0), (5, 7), (25, 9), (26, 0), (27, 0), (35, 7), (36, 0), (37, 0)]),
  (96, 4, [(0, 6), (1, 6), (12, 0), (13, 0)]),
  (97, 4, [(0, 3), (1, 3), (12, 0), (13, 0)]),
  (100, 3, [(0, 0), (2, 6), (3, 0)]),
  (104, 3, [(3, 0), (6, 6), (7, 0), (8, 0)]),
  (105, 3, [(5, 0), (6, 0), (7, 0)]),
  (106, 2, [(0, 6), (1, 0), (4, 0), (5, 0)]),
  (107, 2, [(0, 7), (1, 0), (7, 0), (8, 0)]),
  (110, 2, [(1, 0), (4, 10), (7, 10), (8, 0), (9, 0)]),
  (113, 3, [(0, 0), (1, 4), (2, 0), (7, 3), (8, 0)]),
  (113, 8, [(1, 4), (7, 3), (9, 0)]),
  (113, 11, [(1, 4), (7, 3), (9, 0), (10, 0)]),
  (113, 14, [(1, 4), (7, 3), (9, 0), (10, 0), (11, 0)]),
  (118, 4, [(1, 0), (2, 0), (5, 0)]),
  (118, 9, [(2, 0), (6, 0)]),
  (119, 2, [(1, 0), (5, 3)]),
  (121, 6, [(0, 3), (3, 0), (5, 0)]),
  (122, 3, [(0, 3), (3, 0), (4, 0)]),
  (122, 6, [(0, 3), (3, 0), (4, 0), (5, 0)]),
  (125, 8, [(0, 3), (2, 0), (5, 0), (6, 0), (7, 0)]),
  (128, 3, [(0, 7), (1, 0), (5, 3), (6, 0)]),
  (128, 6, [(0, 7), (1, 0), (5, 3), (6, 0), (7, 0)]),
  (129, 4, [(0, 3), (1, 3), (5, 0)]),
  (130, 3, [(0, 10), (3, 6), (4, 0)]),
  (133, 3, [(2, 0), (3, 0), (4, 0), (7, 0), (8, 0)]),
  (134, 7, [(0, 10), (3, 0), (7, 10), (8, 0), (9, 0)]),
  (135, 6, [(0, 6), (3, 0), (5, 6), (6, 0), (7, 0)]),
  (136, 4, [(0, 6), (1, 6), (5, 0)]),
  (137, 4, [(1, 0), (2, 0), (3, 0), (4, 10), (5, 0)]),
  (138, 2, [(0, 6), (1, 0), (7, 0), (8, 0)]),
  (139, 2, [(0, 9), (1, 0), (7, 0), (8, 0)]),
  (149, 4, [(1, 10), (2, 0), (15, 10), (16, 0), (17, 0)]),
  (151, 4, [(1, 7), (2, 0), (15, 7), (16, 0), (17, 0)]),
  (168, 1, [(0, 4), (2, 0), (3, 0)]),
  (169, 3, [(0, 3), (3, 0), (9, 3), (10, 0), (11, 0)]),
  (169, 11, [(6, 4), (25, 3), (26, 0), (27, 0)]),
  (171, 4, [(0, 4), (1, 4), (12, 0), (13, 0)]),
  (172, 4, [(1, 9), (2, 0), (15, 9), (16, 0), (17, 0)]),
  (173, 4, [(0, 6), (1, 6), (12, 0), (13, 0)]),
  (174, 2, [(0, 0), (1, 4), (7, 4), (8, 0), (9, 0)]),
  (176, 6, [(1, 4), (7, 3), (8, 3)]),
  (176, 9, [(1, 4), (7, 3), (8, 3), (33, 0), (34, 0)]),
  (178, 2, [(2, 10), (5, 10), (6, 0), (7, 0)]),
  (189, 1, [(0, 0), (1, 0), (3, 0), (6, 0)]),
  (189, 18, [(1, 0), (3, 0), (6, 0), (48, 3), (49, 0), (50, 0)]),
  (191, 2, [(0, 3), (1, 0), (7, 0), (8, 0)]),
  (197, 1, [(0, 0), (1, 0), (2, 0)]),
  (197, 17, [(1, 0), (2, 0), (43, 3), (44, 0), (45, 0)]),
  (199, 3, [(3, 0), (6, 3), (7, 0), (8, 0)]),
  (201, 4, [(1, 0), (3, 0)]),
  (204, 2, [(0, 10), (1, 0), (4, 0), (6, 0)]),
  (205, 9, [(1, 0), (2, 0), (8, 0)]),
  (207, 3, [(0, 3), (5, 0), (6, 0), (7, 0)]),
  (209, 2, [(1, 0), (2, 0), (6, 0)]),
  (211, 4, [(2, 0), (3, 0), (5, 0), (6, 3), (7, 0)]),
  (211, 12, [(2, 0), (3, 0), (5, 0), (6, 3), (7, 0), (8, 0), (9, 0)]),
  (213, 4, [(0, 4), (1, 4), (12, 0), (13, 0)]),
  (214, 2, [(0, 10), (1, 0), (7, 0), (8, 0)]),
  (219, 3, [(0, 6), (1, 0), (2, 0), (8, 0), (9, 0), (10, 0)]),
  (224, 3, [(0, 10), (1, 0), (2, 0), (8, 0), (9, 0), (10, 0)]),
  (226, 2, [(0, 4), (1, 0), (7, 0), (8, 0)]),
  (229, 2, [(0, 8), (1, 0), (7, 0), (8, 0)]),
  (232, 3, [(0, 3), (3, 0), (9, 3), (10, 0), (11, 0)]),
  (232, 12, [(6, 0), (26, 3), (27, 0), (28, 0)]),
  (233, 6, [(1, 0), (2, 0), (3, 0), (6, 0), (8, 6), (9, 10), (23, 10), (24, 0), (25, 0)]),
  (234, 9, [(4, 0), (6, 0), (7, 0), (49, 10), (50, 0), (51, 0)]),
  (234, 16, [(4, 0), (6, 0), (92, 7), (93, 0), (94, 0)]),
  (235, 2, [(0, 3), (1, 0), (7, 0), (8, 0)]),
  (236, 8, [(7, 3), (8, 0)]),
  (249, 1, [(0, 0), (1, 0), (4, 0)]),
  (250, 2, [(0, 0), (2, 0), (5, 0), (6, 0)]),
  (251, 4, [(0, 0), (1, 0), (2, 0), (3, 0), (8, 0)]),
  (257, 5, [(0, 0), (5, 6), (6, 0)]),
  (258, 2, [(0, 0), (2, 0), (3, 0)]),
  (260, 3, [(1, 0), (3, 0), (4, 0)]),
  (262, 2, [(0, 0), (1, 0), (5, 0)]),
  (263, 2, [(0, 6), (3, 0)]),
  (268, 3, [(0, 4), (3, 0), (6, 4), (7, 0), (8, 0)]),
  (274, 2, [(2, 7), (6, 7), (7, 0), (8, 0)]),
  (277, 2, [(0, 0), (2, 3), (16, 3), (17, 0), (18, 0)]),
  (281, 3, [(1, 0), (3, 3), (20, 7), (21, 0), (22, 0)]),
  (281, 8, [(1, 0), (3, 3), (5, 0), (20, 7), (21, 0), (22, 0), (43, 6), (44, 0), (45, 0)]),
  (281, 16, [(3, 3), (76, 10), (77, 0), (78, 0)]),
  (282, 3, [(3, 0), (7, 3), (8, 0), (9, 0)]),
  (282, 7, [(3, 0), (7, 3), (8, 0), (9, 0), (18, 0)]),
  (285, 3, [(0, 0), (1, 0), (4, 0), (5, 0)]),
  (285, 7, [(0, 0), (4, 0), (6, 0)]),
  (291, 3, [(0, 0), (2, 0), (4, 0)]),
  (291, 10, [(0, 0), (2, 0), (4, 0), (5, 0)]),
  (291, 19, [(0, 0), (2, 0), (6, 0), (7, 0)]),
  (292, 2, [(0, 0), (2, 0), (3, 0)]),
  (295, 1, [(0, 6), (2, 0), (3, 0)]),
  (298, 2, [(0, 10), (1, 0), (2, 0), (6, 0), (7, 0), (8, 0)]),
  (298, 7, [(0, 10), (1, 0), (2, 0), (6, 0)]),
  (298, 9, [(0, 10), (1, 0), (2, 0), (6, 0), (7, 0), (8, 0)]),
  (300, 5, [(0, 7), (1, 0), (5, 0), (6, 0)]),
  (304, 2, [(0, 4), (3, 0), (7, 0), (8, 0)]),
  (305, 2, [(0, 3), (7, 3), (8, 0), (9, 0)]),
  (307, 9, [(0, 3), (3, 0), (6, 3), (37, 4), (38, 0), (39, 0)]),
  (307, 14, [(0, 3), (3, 0), (51, 3), (52, 0), (53, 0)]),
  (310, 4, [(0, 0), (1, 0), (4, 0), (5, 0)]),
  (310, 8, [(0, 0), (4, 0), (37, 0), (38, 0)]),
  (319, 1, [(0, 10), (2, 0), (3, 0)]),
  (320, 1, [(0, 0), (1, 0)]),
  (321, 1, [(0, 0), (1, 0)]),
  (322, 2, [(0, 0), (2, 0), (4, 0)]),
  (323, 1, [(0, 0), (1, 0)]),
  (324, 1, [(0, 0), (1, 0)]),
  (325, 1, [(0, 0), (1, 0)]),
  (326, 1, [(0, 0), (1, 0)]),
  (327, 1, [(0, 10), (1, 0), (2, 0), (3, 0), (8, 0)]),
  (327, 4, [(0, 10), (1, 0), (2, 0), (3, 0), (8, 0), (9, 0)]),
  (328, 3, [(0, 10), (1, 0), (4, 0), (10, 0), (11, 0)]),
  (328, 9, [(0, 10), (10, 0), (13, 0)]),
  (328, 15, [(0, 10), (2, 0), (4, 0), (14, 0), (15, 0)]),
  (328, 21, [(0, 10), (14, 0), (17, 0)]),
  (328, 33, [(0, 10), (1, 0), (2, 0), (3, 0), (4, 0), (18, 0), (19, 0), (20, 0), (21, 0), (22, 0)]),
  (329, 3, [(1, 0), (5, 0), (8, 7), (9, 0), (10, 0)]),
  (330, 2, [(0, 10), (5, 10), (6, 0), (7, 0)]),
  (331, 3, [(0, 3), (5, 0)]),
  (341, 10, [(0, 0), (4, 0), (5, 0), (6, 0)]),
  (342, 2, [(0, 10), (2, 0), (4, 0), (10, 0), (11, 0)]),
  (344, 1, [(0, 3), (2, 0), (3, 0)]),
  (346, 6, [(0, 0), (2, 0), (3, 0), (4, 0)]),
  (349, 38, [(175, 0)]),
  (351, 1, [(0, 10), (1, 0), (2, 0), (3, 0), (10, 0)])]
def Tryz.digs : List (Nat × Nat × List Dig) := [
  (41, 17, [(some 93, [15], []), (some 94, [93], [0]), (some 95, [10], []), (some 96, [15], []), (some 97, [96], [3]), (some 98, [95, 97], [2, 4]), (some 99, [94, 98], [1, 5, 5]), (some 100, [99], [6]), (some 101, [100], [7, 6]), (some 102, [15, 101], [8]), (some 103, [102, 101], [9, 8]), (some 104, [11, 101], [8]), (some 105, [103, 104, 101], [10, 11, 8, 8]), (some 106, [105, 101], [12, 8]), (some 107, [101, 106], [8, 13]), (some 108, [107], [14, 12]), (some 109, [13, 108], [15]), (some 110, [109, 108], [16, 15]), (some 111, [110, 108], [17, 15, 15]), (some 112, [15, 111], [18]), (some 113, [112, 111], [19, 18]), (some 114, [12, 111], [18]), (some 115, [114, 111], [21, 18]), (some 116, [113, 115, 111], [20, 22, 18, 18]), (some 117, [116, 111], [23, 18]), (some 118, [111, 117, 108], [18, 24, 15]), (some 119, [108, 118], [15, 25])]),
  (42, 8, [(some 23, [5], []), (some 24, [7], []), (some 25, [23, 24], [0, 1]), (some 26, [25], [2]), (some 27, [26], [3]), (some 28, [1], []), (some 29, [6], []), (some 30, [28, 29], [5, 6]), (some 31, [30], [7]), (some 32, [31], [8]), (some 33, [27, 32], [4, 9]), (some 34, [33], [10]), (some 35, [1, 34], [11]), (some 36, [6, 34], [11]), (some 37, [35, 36, 34], [12, 13, 11]), (some 38, [37, 34], [14, 11]), (some 39, [38, 34], [15, 11]), (some 40, [5, 34], [11]), (some 41, [7, 34], [11]), (some 42, [40, 41, 34], [17, 18, 11]), (some 43, [42, 34], [19, 11]), (some 44, [43, 34], [20, 11]), (some 45, [39, 44, 34], [16, 21, 11]), (some 46, [34, 45], [11, 22])]),
  (51, 9, [(some 41, [5], []), (some 42, [41], [0]), (some 43, [42], [1]), (some 44, [1, 43], [2]), (some 45, [5, 43], [2]), (some 46, [45, 43], [4, 2]), (some 47, [44, 46, 43], [3, 5, 2]), (some 48, [47, 43], [6, 2]), (some 49, [48, 43], [7, 2]), (some 50, [6, 43], [2]), (some 51, [50, 43], [9, 2]), (some 52, [49, 51, 43], [8, 10, 2]), (some 53, [52, 43], [11, 2, 2]), (some 54, [1, 53], [12]), (some 55, [5, 53], [12]), (some 56, [55, 53], [14, 12]), (some 57, [54, 56, 53], [13, 15, 12]), (some 58, [57, 53], [16, 12]), (some 59, [58, 53], [17, 12]), (some 60, [6, 53], [12]), (some 61, [60, 53], [19, 12]), (some 62, [59, 61, 53], [18, 20, 12]), (some 63, [62, 53], [21, 12, 12]), (some 64, [1, 63], [22]), (some 65, [5, 63], [22]), (some 66, [65, 63], [24, 22]), (some 67, [64, 66, 63], [23, 25, 22]), (some 68, [67, 63], [26, 22]), (some 69, [68, 63], [27, 22]), (some 70, [6, 63], [22]), (some 71, [70, 63], [29, 22]), (some 72, [69, 71, 63], [28, 30, 22]), (some 73, [63, 72, 53], [22, 31, 12]), (some 74, [53, 73, 43], [12, 32, 2]), (some 75, [43, 74], [2, 33])]),
  (113, 17, [(some 54, [7], []), (some 55, [12], []), (some 56, [54, 55], [0, 1]), (some 57, [56], [2]), (some 58, [57], [3]), (some 59, [58], [4]), (some 60, [7, 59], [5]), (some 61, [13, 59], [5]), (some 62, [60, 61, 59], [6, 7, 5]), (some 63, [62, 59], [8, 5]), (some 64, [63, 59], [9, 5]), (some 65, [64, 59], [10, 5, 5]), (some 66, [7, 65], [11]), (some 67, [13, 65], [11]), (some 68, [66, 67, 65], [12, 13, 11]), (some 69, [68, 65], [14, 11]), (some 70, [7, 65], [11]), (some 71, [12, 65], [11]), (some 72, [70, 71, 65], [16, 17, 11]), (some 73, [72, 65], [18, 11]), (some 74, [73, 65], [19, 11]), (some 75, [69, 74, 65], [15, 20, 11]), (some 76, [65, 75, 59], [11, 21, 5]), (some 77, [59, 76], [5, 22])]),
  (118, 6, [(some 47, [2], []), (some 48, [47], [0]), (some 49, [5], []), (some 50, [48, 49], [1, 2]), (some 51, [50], [3]), (some 52, [1], []), (some 53, [51, 52], [4, 5]), (some 54, [53], [6]), (some 55, [54], [7, 6]), (some 56, [2, 55], [8]), (some 57, [56, 55], [9, 8]), (some 58, [5, 55], [8]), (some 59, [57, 58, 55], [10, 11, 8]), (some 60, [59, 55], [12, 8]), (some 61, [60, 55], [13, 8]), (some 62, [61, 55], [14, 8]), (some 63, [55, 62], [8, 15]), (some 64, [63], [16, 8]), (some 65, [5, 64], [17]), (some 66, [65, 64], [18, 17]), (some 67, [66, 64], [19, 17, 17]), (some 68, [2, 67], [20]), (some 69, [68, 67], [21, 20]), (some 70, [5, 67], [20]), (some 71, [69, 70, 67], [22, 23, 20]), (some 72, [71, 67], [24, 20]), (some 73, [72, 67], [25, 20]), (some 74, [2, 67], [20]), (some 75, [74, 67], [27, 20]), (some 76, [5, 67], [20]), (some 77, [76, 67], [29, 20]), (some 78, [75, 77, 67], [28, 30, 20]), (some 79, [78, 67], [31, 20]), (some 80, [79, 67], [32, 20]), (some 81, [73, 80, 67], [26, 33, 20]), (some 82, [67, 81, 64], [20, 34, 17]), (some 83, [64, 82], [17, 35])]),
  (118, 11, [(some 91, [2], []), (some 92, [91], [0]), (some 93, [6], []), (some 94, [92, 93], [1, 2]), (some 95, [94], [3]), (some 96, [95], [4]), (some 97, [96], [5]), (some 98, [97], [6, 5]), (some 99, [6, 98], [7]), (some 100, [99, 98], [8, 7]), (some 101, [100, 98], [9, 7, 7]), (some 102, [2, 101], [10]), (some 103, [102, 101], [11, 10]), (some 104, [6, 101], [10]), (some 105, [104, 101], [13, 10]), (some 106, [103, 105, 101], [12, 14, 10]), (some 107, [106, 101], [15, 10]), (some 108, [107, 101], [16, 10]), (some 109, [2, 101], [10]), (some 110, [109, 101], [18, 10]), (some 111, [6, 101], [10]), (some 112, [110, 111, 101], [19, 20, 10]), (some 113, [112, 101], [21, 10]), (some 114, [113, 101], [22, 10]), (some 115, [108, 114, 101], [17, 23, 10, 10]), (some 116, [115, 101], [24, 10]), (some 117, [101, 116, 98], [10, 25, 7]), (some 118, [98, 117], [7, 26])]),
  (174, 6, [(some 30, [5], []), (some 31, [30], [0]), (some 32, [31], [1]), (some 33, [1, 32], [2]), (some 34, [5, 32], [2]), (some 35, [34, 32], [4, 2]), (some 36, [33, 35, 32], [3, 5, 2]), (some 37, [36, 32], [6, 2]), (some 38, [37, 32], [7, 2]), (some 39, [6, 32], [2]), (some 40, [39, 32], [9, 2]), (some 41, [38, 40, 32], [8, 10, 2, 2]), (some 42, [1, 32], [2]), (some 43, [5, 32], [2]), (some 44, [43, 32], [13, 2]), (some 45, [42, 44, 32], [12, 14, 2]), (some 46, [45, 32], [15, 2]), (some 47, [46, 32], [16, 2]), (some 48, [6, 32], [2]), (some 49, [48, 32], [18, 2]), (some 50, [47, 49, 32], [17, 19, 11, 2]), (some 51, [41, 50, 32], [11, 20, 2]), (some 52, [51, 32], [21, 20, 2]), (some 53, [52, 32], [22, 2]), (some 54, [32, 53], [2, 23])]),
  (201, 7, [(some 58, [4], []), (some 59, [58], [0]), (some 60, [59], [1]), (some 61, [60], [2]), (some 62, [4, 61], [3]), (some 63, [62, 61], [4, 3]), (some 64, [63, 61], [5, 3]), (some 65, [61, 64], [3, 6]), (some 66, [65], [7, 3]), (some 67, [4, 66], [8]), (some 68, [67, 66], [9, 8]), (some 69, [68, 66], [10, 8]), (some 70, [66, 69], [8, 11]), (some 71, [70], [12, 8]), (some 72, [4, 71], [13]), (some 73, [72, 71], [14, 13]), (some 74, [73, 71], [15, 13]), (some 75, [71, 74], [13, 16]), (some 76, [75], [17, 13]), (some 77, [3, 76], [18]), (some 78, [77, 76], [19, 18]), (some 79, [78, 76], [20, 18, 18]), (some 80, [4, 79], [21]), (some 81, [80, 79], [22, 21]), (some 82, [1, 79], [21]), (some 83, [82, 79], [24, 21]), (some 84, [3, 79], [21]), (some 85, [84, 79], [26, 21]), (some 86, [83, 85, 79], [25, 27, 21]), (some 87, [86, 79], [28, 21]), (some 88, [87, 79], [29, 21]), (some 89, [81, 88, 79], [23, 30, 21]), (some 90, [79, 89, 76], [21, 31, 18]), (some 91, [76, 90], [18, 32])]),
  (263, 4, [(some 10, [0], []), (some 11, [3], []), (some 12, [10, 11], [0, 1]), (some 13, [12], [2]), (some 14, [13], [3]), (some 15, [14], [4]), (some 16, [15], [5]), (some 17, [0, 16], [6]), (some 18, [3, 16], [6]), (some 19, [17, 18, 16], [7, 8, 6]), (some 20, [19, 16], [9, 6]), (some 21, [20, 16], [10, 6]), (some 22, [21, 16], [11, 6]), (some 23, [16, 22], [6, 12]), (some 24, [23], [13, 6]), (some 25, [0, 24], [14]), (some 26, [3, 24], [14]), (some 27, [25, 26, 24], [15, 16, 14]), (some 28, [27, 24], [17, 14]), (some 29, [28, 24], [18, 14]), (some 30, [29, 24], [19, 14, 14]), (some 31, [30, 24], [20, 14]), (some 32, [24, 31], [14, 21]), (some 33, [32], [22, 20]), (some 34, [3, 33], [23]), (some 35, [34, 33], [24, 23]), (some 36, [35, 33], [25, 23, 23]), (some 37, [0, 36], [26]), (some 38, [3, 36], [26]), (some 39, [37, 38, 36], [27, 28, 26]), (some 40, [39, 36], [29, 26]), (some 41, [40, 36], [30, 26]), (some 42, [0, 36], [26]), (some 43, [3, 36], [26]), (some 44, [43, 36], [33, 26]), (some 45, [42, 44, 36], [32, 34, 26]), (some 46, [45, 36], [35, 26]), (some 47, [46, 36], [36, 26]), (some 48, [41, 47, 36], [31, 37, 26]), (some 49, [36, 48, 33], [26, 38, 23]), (some 50, [33, 49], [23, 39])]),
  (278, 4, [(some 35, [3], []), (some 36, [35], [0]), (some 37, [0], []), (some 38, [37], [2]), (some 39, [38], [3]), (some 40, [39], [4]), (some 41, [40], [5]), (some 42, [3], []), (some 43, [42], [7]), (some 44, [41, 43], [6, 8]), (some 45, [36, 44], [1, 9, 9]), (some 46, [45], [10]), (some 47, [46], [11, 10]), (some 48, [4, 47], [12]), (some 49, [3, 47], [12]), (some 50, [48, 49, 47], [13, 14, 12, 12]), (some 51, [50, 47], [15, 15, 12]), (some 52, [5, 51], [16]), (some 53, [0, 51], [16]), (some 54, [53, 51], [18, 16]), (some 55, [54, 51], [19, 16]), (some 56, [55, 51], [20, 16]), (some 57, [56, 51], [21, 16]), (some 58, [52, 57, 51], [17, 22, 16]), (some 59, [51, 58, 47], [16, 23, 12]), (some 60, [47, 59], [12, 24])]),
  (293, 1, [(some 5, [0], []), (some 6, [5], [0]), (some 7, [6], [1]), (some 8, [7], [2]), (some 9, [8], [3]), (some 10, [0, 9], [4]), (some 11, [10, 9], [5, 4]), (some 12, [11, 9], [6, 4]), (some 13, [12, 9], [7, 4]), (some 14, [0, 9], [4]), (some 15, [14, 9], [9, 4]), (some 16, [15, 9], [10, 4]), (some 17, [16, 9], [11, 4]), (some 18, [17, 9], [12, 4]), (some 19, [13, 18, 9], [8, 13, 4]), (some 20, [9, 19], [4, 14]), (some 21, [20], [15, 4]), (some 22, [0, 21], [16]), (some 23, [22, 21], [17, 16]), (some 24, [23, 21], [18, 16]), (some 25, [24, 21], [19, 16]), (some 26, [0, 21], [16]), (some 27, [26, 21], [21, 16]), (some 28, [27, 21], [22, 16]), (some 29, [28, 21], [23, 16]), (some 30, [25, 29, 21], [20, 24, 16]), (some 31, [30, 21], [25, 16]), (some 32, [31, 21], [26, 16]), (some 33, [32, 21], [27, 16]), (some 34, [21, 33], [16, 28]), (some 35, [34], [29, 16]), (some 36, [0, 35], [30]), (some 37, [36, 35], [31, 30]), (some 38, [37, 35], [32, 30]), (some 39, [38, 35], [33, 30]), (some 40, [0, 35], [30]), (some 41, [40, 35], [35, 30]), (some 42, [41, 35], [36, 30]), (some 43, [42, 35], [37, 30]), (some 44, [39, 43, 35], [34, 38, 30]), (some 45, [44, 35], [39, 30]), (some 46, [45, 35], [40, 30]), (some 47, [1, 35], [30]), (some 48, [46, 47, 35], [41, 42, 30]), (some 49, [35, 48], [30, 43])]),
  (318, 11, [(some 33, [0], []), (some 34, [33], [0]), (some 35, [34], [1]), (some 36, [35], [2]), (some 37, [0], []), (some 38, [37], [4]), (some 39, [38], [5]), (some 40, [39], [6]), (some 41, [40], [7]), (some 42, [36, 41], [3, 8]), (some 43, [42], [9]), (some 44, [0, 43], [10]), (some 45, [44, 43], [11, 10]), (some 46, [45, 43], [12, 10]), (some 47, [46, 43], [13, 10]), (some 48, [0, 43], [10]), (some 49, [48, 43], [15, 10]), (some 50, [49, 43], [16, 10]), (some 51, [50, 43], [17, 10]), (some 52, [47, 51, 43], [14, 18, 10]), (some 53, [52, 43], [19, 10]), (some 54, [53, 43], [20, 10]), (some 55, [54, 43], [21, 10]), (some 56, [43, 55], [10, 22])]),
  (330, 4, [(some 12, [0], []), (some 13, [12], [0]), (some 14, [13], [1]), (some 15, [14], [2]), (some 16, [4, 15], [3]), (some 17, [16, 15], [4, 3, 3]), (some 18, [17, 15], [5, 3]), (some 19, [15, 18], [3, 6]), (some 20, [19], [7, 5]), (some 21, [3, 20], [8]), (some 22, [21, 20], [9, 8]), (some 23, [22, 20], [10, 8, 8]), (some 24, [0, 23], [11]), (some 25, [3, 23], [11]), (some 26, [25, 23], [13, 11]), (some 27, [24, 26, 23], [12, 14, 11]), (some 28, [27, 23], [15, 11]), (some 29, [28, 23], [16, 11]), (some 30, [4, 23], [11]), (some 31, [30, 23], [18, 11]), (some 32, [29, 31, 23], [17, 19, 11, 11]), (some 33, [32, 23], [20, 11]), (some 34, [23, 33, 20], [11, 21, 8]), (some 35, [20, 34], [8, 22])]),
  (347, 3, [(some 9, [0], []), (some 10, [9], [0]), (some 11, [10], [1]), (some 12, [11], [2]), (some 13, [0], []), (some 14, [13], [4]), (some 15, [14], [5]), (some 16, [15], [6]), (some 17, [16], [7]), (some 18, [12, 17], [3, 8]), (some 19, [18], [9]), (some 20, [0, 19], [10]), (some 21, [20, 19], [11, 10]), (some 22, [21, 19], [12, 10]), (some 23, [22, 19], [13, 10]), (some 24, [0, 19], [10]), (some 25, [24, 19], [15, 10]), (some 26, [25, 19], [16, 10]), (some 27, [26, 19], [17, 10]), (some 28, [23, 27, 19], [14, 18, 10]), (some 29, [28, 19], [19, 10]), (some 30, [29, 19], [20, 10]), (some 31, [30, 19], [21, 10]), (some 32, [19, 31], [10, 22]), (some 33, [32], [23, 10]), (some 34, [0, 33], [24]), (some 35, [34, 33], [25, 24]), (some 36, [35, 33], [26, 24]), (some 37, [36, 33], [27, 24]), (some 38, [0, 33], [24]), (some 39, [38, 33], [29, 24]), (some 40, [39, 33], [30, 24]), (some 41, [40, 33], [31, 24]), (some 42, [37, 41, 33], [28, 32, 24]), (some 43, [42, 33], [33, 24]), (some 44, [43, 33], [34, 24]), (some 45, [1, 33], [24]), (some 46, [44, 45, 33], [35, 36, 24]), (some 47, [33, 46], [24, 37])]),
  (351, 3, [(some 16, [0], []), (some 17, [1], []), (some 18, [10], []), (some 19, [17, 18], [1, 2]), (some 20, [0], []), (some 21, [2], []), (some 22, [10], []), (some 23, [21, 22], [5, 6]), (some 24, [0], []), (some 25, [2], []), (some 26, [10], []), (some 27, [25, 26], [9, 10]), (some 28, [24, 27], [8, 11]), (some 29, [28], [12]), (some 30, [0], []), (some 31, [1], []), (some 32, [10], []), (some 33, [31, 32], [15, 16]), (some 34, [30, 33], [14, 17]), (some 35, [34], [18]), (some 36, [16, 19], [0, 3, 0, 1, 2, 3, 8, 9, 10, 11, 12, 13, 19]), (none, [36, 29], [20, 13, 0, 1, 2, 3, 8, 9, 10, 11, 12, 13, 19]), (some 37, [20, 23], [4, 7, 0, 1, 2, 3, 4, 5, 6, 7, 8, 9, 10, 11, 12, 13, 14, 15, 16, 17, 18, 19, 20, 21]), (none, [37, 35], [22, 19, 21, 0, 1, 2, 3, 4, 5, 6, 7, 8, 9, 10, 11, 12, 13, 14, 15, 16, 17, 18, 19, 20, 21])])]

def Tryz.nilszs : List (Nat × Nat) := [(90, 2), (110, 8), (146, 4), (152, 8), (153, 2), (154, 5), (155, 1), (177, 4), (179, 7), (216, 8), (343, 1)]
def Tryz.globs : List (Nat × AV) := []
noncomputable def Tryz.phi : Phi := fun _ _ => none
def Tryz.cfg : Cfg := { tab := Tryz.tab, live := fun f r => look2 [] Tryz.lives f r, opens := fun f => memN f [92, 93, 101, 123, 124, 148, 168, 170, 180, 181, 182, 183, 184, 186, 187, 188, 189, 193, 194, 217, 222, 231, 246, 247, 251, 252, 258, 259, 266, 267, 272, 276, 277, 278, 284, 285, 287, 288, 292, 293, 294, 295, 298, 301, 308, 309, 310, 311, 313, 314, 315, 318, 319, 327, 328, 333, 334, 337, 342, 346, 347, 351, 352, 353, 381], fresh := fun f => memN f [90, 110, 146, 152, 153, 154, 155, 177, 179, 216, 343], nilsz := fun f => (look1 Tryz.nilszs f).getD 0, plan := fun f r => look2 .stop Tryz.plans f r, glob := fun g => look1 Tryz.globs g }
def Tryz.X : Ctx := { cfg := Tryz.cfg, call := SoundCall Go.Proofs.Tryz.prog Tryz.phi, meth := IsMeth Go.Proofs.Tryz.prog, ta := Asserts Go.Proofs.Tryz.prog }
set_option maxRecDepth 100000
theorem Tryz.tabOk : tabB Go.Proofs.Tryz.prog Tryz.tab Tryz.tab = true := by kernel_rfl
theorem Tryz.mixed : Go.Proofs.Tryz.prog.follows .mixedOrders = true := by kernel_rfl
theorem Tryz.ok : CtxOk Go.Proofs.Tryz.prog Tryz.phi Tryz.X := ⟨tabB_ok Tryz.tabOk, fun _ _ _ _ h => h, fun _ _ _ _ h => h, fun _ _ _ h => h, Tryz.mixed, fun g v h => by cases h⟩
noncomputable def Tryz.fns : List (Nat × Func) := [(2, Go.Proofs.Tryz.f2), (3, Go.Proofs.Tryz.f3), (4, Go.Proofs.Tryz.f4), (5, Go.Proofs.Tryz.f5), (6, Go.Proofs.Tryz.f6), (7, Go.Proofs.Tryz.f7), (8, Go.Proofs.Tryz.f8), (9, Go.Proofs.Tryz.f9), (10, Go.Proofs.Tryz.f10), (11, Go.Proofs.Tryz.f11), (12, Go.Proofs.Tryz.f12), (13, Go.Proofs.Tryz.f13), (14, Go.Proofs.Tryz.f14), (15, Go.Proofs.Tryz.f15), (16, Go.Proofs.Tryz.f16), (17, Go.Proofs.Tryz.f17), (18, Go.Proofs.Tryz.f18), (19, Go.Proofs.Tryz.f19), (20, Go.Proofs.Tryz.f20), (21, Go.Proofs.Tryz.f21), (22, Go.Proofs.Tryz.f22), (23, Go.Proofs.Tryz.f23), (24, Go.Proofs.Tryz.f24), (25, Go.Proofs.Tryz.f25), (26, Go.Proofs.Tryz.f26), (27, Go.Proofs.Tryz.f27), (28, Go.Proofs.Tryz.f28), (29, Go.Proofs.Tryz.f29), (30, Go.Proofs.Tryz.f30), (31, Go.Proofs.Tryz.f31), (32, Go.Proofs.Tryz.f32), (33, Go.Proofs.Tryz.f33), (34, Go.Proofs.Tryz.f34), (35, Go.Proofs.Tryz.f35), (36, Go.Proofs.Tryz.f36), (37, Go.Proofs.Tryz.f37), (38, Go.Proofs.Tryz.f38), (39, Go.Proofs.Tryz.f39), (40, Go.Proofs.Tryz.f40), (41, Go.Proofs.Tryz.f41), (42, Go.Proofs.Tryz.f42), (43, Go.Proofs.Tryz.f43), (44, Go.Proofs.Tryz.f44), (45, Go.Proofs.Tryz.f45), (46, Go.Proofs.Tryz.f46), (47, Go.Proofs.Tryz.f47), (48, Go.Proofs.Tryz.f48), (49, Go.Proofs.Tryz.f49), (50, Go.Proofs.Tryz.f50), (51, Go.Proofs.Tryz.f51), (52, Go.Proofs.Tryz.f52), (53, Go.Proofs.Tryz.f53), (54, Go.Proofs.Tryz.f54), (55, Go.Proofs.Tryz.f55), (56, Go.Proofs.Tryz.f56), (57, Go.Proofs.Tryz.f57), (58, Go.Proofs.Tryz.f58), (59, Go.Proofs.Tryz.f59), (60, Go.Proofs.Tryz.f60), (61, Go.Proofs.Tryz.f61), (62, Go.Proofs.Tryz.f62), (63, Go.Proofs.Tryz.f63), (64, Go.Proofs.Tryz.f64), (65, Go.Proofs.Tryz.f65), (66, Go.Proofs.Tryz.f66), (67, Go.Proofs.Tryz.f67), (68, Go.Proofs.Tryz.f68), (69, Go.Proofs.Tryz.f69), (70, Go.Proofs.Tryz.f70), (71, Go.Proofs.Tryz.f71), (72, Go.Proofs.Tryz.f72), (73, Go.Proofs.Tryz.f73), (74, Go.Proofs.Tryz.f74), (75, Go.Proofs.Tryz.f75), (76, Go.Proofs.Tryz.f76), (77, Go.Proofs.Tryz.f77), (78, Go.Proofs.Tryz.f78), (79, Go.Proofs.Tryz.f79), (80, Go.Proofs.Tryz.f80), (81, Go.Proofs.Tryz.f81), (82, Go.Proofs.Tryz.f82), (83, Go.Proofs.Tryz.f83), (84, Go.Proofs.Tryz.f84), (85, Go.Proofs.Tryz.f85), (86, Go.Proofs.Tryz.f86), (87, Go.Proofs.Tryz.f87), (88, Go.Proofs.Tryz.f88), (89, Go.Proofs.Tryz.f89), (90, Go.Proofs.Tryz.f90), (91, Go.Proofs.Tryz.f91), (92, Go.Proofs.Tryz.f92), (93, Go.Proofs.Tryz.f93), (94, Go.Proofs.Tryz.f94), (95, Go.Proofs.Tryz.f95), (96, Go.Proofs.Tryz.f96), (97, Go.Proofs.Tryz.f97), (98, Go.Proofs.Tryz.f98), (99, Go.Proofs.Tryz.f99), (100, Go.Proofs.Tryz.f100), (101, Go.Proofs.Tryz.f101), (102, Go.Proofs.Tryz.f102), (103, Go.Proofs.Tryz.f103), (104, Go.Proofs.Tryz.f104), (105, Go.Proofs.Tryz.f105), (106, Go.Proofs.Tryz.f106), (107, Go.Proofs.Tryz.f107), (108, Go.Proofs.Tryz.f108), (109, Go.Proofs.Tryz.f109), (110, Go.Proofs.Tryz.f110), (111, Go.Proofs.Tryz.f111), (112, Go.Proofs.Tryz.f112), (113, Go.Proofs.Tryz.f113), (114, Go.Proofs.Tryz.f114), (115, Go.Proofs.Tryz.f115), (116, Go.Proofs.Tryz.f116), (117, Go.Proofs.Tryz.f117), (118, Go.Proofs.Tryz.f118), (119, Go.Proofs.Tryz.f119), (120, Go.Proofs.Tryz.f120), (121, Go.Proofs.Tryz.f121), (122, Go.Proofs.Tryz.f122), (123, Go.Proofs.Tryz.f123), (124, Go.Proofs.Tryz.f124), (125, Go.Proofs.Tryz.f125), (126, Go.Proofs.Tryz.f126), (127, Go.Proofs.Tryz.f127), (128, Go.Proofs.Tryz.f128), (129, Go.Proofs.Tryz.f129), (130, Go.Proofs.Tryz.f130), (131, Go.Proofs.Tryz.f131), (132, Go.Proofs.Tryz.f132), (133, Go.Proofs.Tryz.f133), (134, Go.Proofs.Tryz.f134), (135, Go.Proofs.Tryz.f135), (136, Go.Proofs.Tryz.f136), (137, Go.Proofs.Tryz.f137), (138, Go.Proofs.Tryz.f138), (139, Go.Proofs.Tryz.f139), (140, Go.Proofs.Tryz.f140), (141, Go.Proofs.Tryz.f141), (142, Go.Proofs.Tryz.f142), (143, Go.Proofs.Tryz.f143), (144, Go.Proofs.Tryz.f144), (145, Go.Proofs.Tryz.f145), (146, Go.Proofs.Tryz.f146), (147, Go.Proofs.Tryz.f147), (148, Go.Proofs.Tryz.f148), (149, Go.Proofs.Tryz.f149), (150, Go.Proofs.Tryz.f150), (151, Go.Proofs.Tryz.f151), (152, Go.Proofs.Tryz.f152), (153, Go.Proofs.Tryz.f153), (154, Go.Proofs.Tryz.f154), (155, Go.Proofs.Tryz.f155), (156, Go.Proofs.Tryz.f156), (157, Go.Proofs.Tryz.f157), (158, Go.Proofs.Tryz.f158), (159, Go.Proofs.Tryz.f159), (160, Go.Proofs.Tryz.f160), (161, Go.Proofs.Tryz.f161), (162, Go.Proofs.Tryz.f162), (163, Go.Proofs.Tryz.f163), (164, Go.Proofs.Tryz.f164), (165, Go.Proofs.Tryz.f165), (166, Go.Proofs.Tryz.f166), (167, Go.Proofs.Tryz.f167), (168, Go.Proofs.Tryz.f168), (169, Go.Proofs.Tryz.f169), (170, Go.Proofs.Tryz.f170), (171, Go.Proofs.Tryz.f171), (172, Go.Proofs.Tryz.f172), (173, Go.Proofs.Tryz.f173), (174, Go.Proofs.Tryz.f174), (175, Go.Proofs.Tryz.f175), (176, Go.Proofs.Tryz.f176), (177, Go.Proofs.Tryz.f177), (178, Go.Proofs.Tryz.f178), (179, Go.Proofs.Tryz.f179), (180, Go.Proofs.Tryz.f180), (181, Go.Proofs.Tryz.f181), (182, Go.Proofs.Tryz.f182), (183, Go.Proofs.Tryz.f183), (184, Go.Proofs.Tryz.f184), (185, Go.Proofs.Tryz.f185), (189, Go.Proofs.Tryz.f189), (190, Go.Proofs.Tryz.f190), (191, Go.Proofs.Tryz.f191), (192, Go.Proofs.Tryz.f192), (193, Go.Proofs.Tryz.f193), (194, Go.Proofs.Tryz.f194), (195, Go.Proofs.Tryz.f195), (197, Go.Proofs.Tryz.f197), (198, Go.Proofs.Tryz.f198), (199, Go.Proofs.Tryz.f199), (200, Go.Proofs.Tryz.f200), (201, Go.Proofs.Tryz.f201), (202, Go.Proofs.Tryz.f202), (203, Go.Proofs.Tryz.f203), (204, Go.Proofs.Tryz.f204), (205, Go.Proofs.Tryz.f205), (206, Go.Proofs.Tryz.f206), (207, Go.Proofs.Tryz.f207), (208, Go.Proofs.Tryz.f208), (209, Go.Proofs.Tryz.f209), (210, Go.Proofs.Tryz.f210), (211, Go.Proofs.Tryz.f211), (212, Go.Proofs.Tryz.f212), (213, Go.Proofs.Tryz.f213), (214, Go.Proofs.Tryz.f214), (215, Go.Proofs.Tryz.f215), (216, Go.Proofs.Tryz.f216), (217, Go.Proofs.Tryz.f217), (218, Go.Proofs.Tryz.f218), (219, Go.Proofs.Tryz.f219), (220, Go.Proofs.Tryz.f220), (222, Go.Proofs.Tryz.f222), (223, Go.Proofs.Tryz.f223), (224, Go.Proofs.Tryz.f224), (225, Go.Proofs.Tryz.f225), (226, Go.Proofs.Tryz.f226), (227, Go.Proofs.Tryz.f227), (228, Go.Proofs.Tryz.f228), (229, Go.Proofs.Tryz.f229), (230, Go.Proofs.Tryz.f230), (231, Go.Proofs.Tryz.f231), (232, Go.Proofs.Tryz.f232), (233, Go.Proofs.Tryz.f233), (234, Go.Proofs.Tryz.f234), (235, Go.Proofs.Tryz.f235), (236, Go.Proofs.Tryz.f236), (237, Go.Proofs.Tryz.f237), (238, Go.Proofs.Tryz.f238), (239, Go.Proofs.Tryz.f239), (240, Go.Proofs.Tryz.f240), (241, Go.Proofs.Tryz.f241), (242, Go.Proofs.Tryz.f242), (243, Go.Proofs.Tryz.f243), (244, Go.Proofs.Tryz.f244), (245, Go.Proofs.Tryz.f245), (248, Go.Proofs.Tryz.f248), (249, Go.Proofs.Tryz.f249), (250, Go.Proofs.Tryz.f250), (251, Go.Proofs.Tryz.f251), (252, Go.Proofs.Tryz.f252), (253, Go.Proofs.Tryz.f253), (254, Go.Proofs.Tryz.f254), (255, Go.Proofs.Tryz.f255), (256, Go.Proofs.Tryz.f256), (257, Go.Proofs.Tryz.f257), (258, Go.Proofs.Tryz.f258), (259, Go.Proofs.Tryz.f259), (260, Go.Proofs.Tryz.f260), (261, Go.Proofs.Tryz.f261), (262, Go.Proofs.Tryz.f262), (263, Go.Proofs.Tryz.f263), (264, Go.Proofs.Tryz.f264), (266, Go.Proofs.Tryz.f266), (267, Go.Proofs.Tryz.f267), (268, Go.Proofs.Tryz.f268), (269, Go.Proofs.Tryz.f269), (270, Go.Proofs.Tryz.f270), (271, Go.Proofs.Tryz.f271), (272, Go.Proofs.Tryz.f272), (273, Go.Proofs.Tryz.f273), (274, Go.Proofs.Tryz.f274), (275, Go.Proofs.Tryz.f275), (276, Go.Proofs.Tryz.f276), (277, Go.Proofs.Tryz.f277), (278, Go.Proofs.Tryz.f278), (279, Go.Proofs.Tryz.f279), (280, Go.Proofs.Tryz.f280), (281, Go.Proofs.Tryz.f281), (282, Go.Proofs.Tryz.f282), (283, Go.Proofs.Tryz.f283), (284, Go.Proofs.Tryz.f284), (285, Go.Proofs.Tryz.f285), (286, Go.Proofs.Tryz.f286), (287, Go.Proofs.Tryz.f287), (288, Go.Proofs.Tryz.f288), (289, Go.Proofs.Tryz.f289), (290, Go.Proofs.Tryz.f290), (291, Go.Proofs.Tryz.f291), (292, Go.Proofs.Tryz.f292), (293, Go.Proofs.Tryz.f293), (294, Go.Proofs.Tryz.f294), (295, Go.Proofs.Tryz.f295), (296, Go.Proofs.Tryz.f296), (297, Go.Proofs.Tryz.f297), (298, Go.Proofs.Tryz.f298), (299, Go.Proofs.Tryz.f299), (300, Go.Proofs.Tryz.f300), (301, Go.Proofs.Tryz.f301), (302, Go.Proofs.Tryz.f302), (303, Go.Proofs.Tryz.f303), (304, Go.Proofs.Tryz.f304), (305, Go.Proofs.Tryz.f305), (306, Go.Proofs.Tryz.f306), (307, Go.Proofs.Tryz.f307), (308, Go.Proofs.Tryz.f308), (309, Go.Proofs.Tryz.f309), (310, Go.Proofs.Tryz.f310), (311, Go.Proofs.Tryz.f311), (312, Go.Proofs.Tryz.f312), (313, Go.Proofs.Tryz.f313), (314, Go.Proofs.Tryz.f314), (315, Go.Proofs.Tryz.f315), (316, Go.Proofs.Tryz.f316), (317, Go.Proofs.Tryz.f317), (318, Go.Proofs.Tryz.f318), (319, Go.Proofs.Tryz.f319), (320, Go.Proofs.Tryz.f320), (321, Go.Proofs.Tryz.f321), (322, Go.Proofs.Tryz.f322), (323, Go.Proofs.Tryz.f323), (324, Go.Proofs.Tryz.f324), (325, Go.Proofs.Tryz.f325), (326, Go.Proofs.Tryz.f326), (327, Go.Proofs.Tryz.f327), (328, Go.Proofs.Tryz.f328), (329, Go.Proofs.Tryz.f329), (330, Go.Proofs.Tryz.f330), (331, Go.Proofs.Tryz.f331), (332, Go.Proofs.Tryz.f332), (333, Go.Proofs.Tryz.f333), (334, Go.Proofs.Tryz.f334), (335, Go.Proofs.Tryz.f335), (337, Go.Proofs.Tryz.f337), (338, Go.Proofs.Tryz.f338), (339, Go.Proofs.Tryz.f339), (340, Go.Proofs.Tryz.f340), (341, Go.Proofs.Tryz.f341), (342, Go.Proofs.Tryz.f342), (343, Go.Proofs.Tryz.f343), (344, Go.Proofs.Tryz.f344), (345, Go.Proofs.Tryz.f345), (346, Go.Proofs.Tryz.f346), (347, Go.Proofs.Tryz.f347), (348, Go.Proofs.Tryz.f348), (349, Go.Proofs.Tryz.f349), (350, Go.Proofs.Tryz.f350), (351, Go.Proofs.Tryz.f351), (352, Go.Proofs.Tryz.f352), (353, Go.Proofs.Tryz.f353), (354, Go.Proofs.Tryz.f354), (355, Go.Proofs.Tryz.f355), (379, Go.Proofs.Tryz.f379), (384, Go.Proofs.Tryz.f384), (387, Go.Proofs.Tryz.f387), (401, Go.Proofs.Tryz.f401), (403, Go.Proofs.Tryz.f403), (407, Go.Proofs.Tryz.f407), (409, Go.Proofs.Tryz.f409), (411, Go.Proofs.Tryz.f411), (413, Go.Proofs.Tryz.f413), (418, Go.Proofs.Tryz.f418), (420, Go.Proofs.Tryz.f420)]
theorem Tryz.ok2 : fnB Tryz.cfg Tryz.digs 2 Go.Proofs.Tryz.f2 = true := by kernel_rfl
theorem Tryz.ok3 : fnB Tryz.cfg Tryz.digs 3 Go.Proofs.Tryz.f3 = true := by kernel_rfl
theorem Tryz.ok4 : fnB Tryz.cfg Tryz.digs 4 Go.Proofs.Tryz.f4 = true := by kernel_rfl
theorem Tryz.ok5 : fnB Tryz.cfg Tryz.digs 5 Go.Proofs.Tryz.f5 = true := by kernel_rfl
theorem Tryz.ok6 : fnB Tryz.cfg Tryz.digs 6 Go.Proofs.Tryz.f6 = true := by kernel_rfl
theorem Tryz.ok7 : fnB Tryz.cfg Tryz.digs 7 Go.Proofs.Tryz.f7 = true := by kernel_rfl
theorem Tryz.ok8 : fnB Tryz.cfg Tryz.digs 8 Go.Proofs.Tryz.f8 = true := by kernel_rfl
theorem Tryz.ok9 : fnB Tryz.cfg Tryz.digs 9 Go.Proofs.Tryz.f9 = true := by kernel_rfl
theorem Tryz.ok10 : fnB Tryz.cfg Tryz.digs 10 Go.Proofs.Tryz.f10 = true := by kernel_rfl
theorem Tryz.ok11 : fnB Tryz.cfg Tryz.digs 11 Go.Proofs.Tryz.f11 = true := by kernel_rfl
theorem Tryz.ok12 : fnB Tryz.cfg Tryz.digs 12 Go.Proofs.Tryz.f12 = true := by kernel_rfl
theorem Tryz.ok13 : fnB Tryz.cfg Tryz.digs 13 Go.Proofs.Tryz.f13 = true := by kernel_rfl
theorem Tryz.ok14 : fnB Tryz.cfg Tryz.digs 14 Go.Proofs.Tryz.f14 = true := by kernel_rfl
theorem Tryz.ok15 : fnB Tryz.cfg Tryz.digs 15 Go.Proofs.Tryz.f15 = true := by kernel_rfl
theorem Tryz.ok16 : fnB Tryz.cfg Tryz.digs 16 Go.Proofs.Tryz.f16 = true := by kernel_rfl
theorem Tryz.ok17 : fnB Tryz.cfg Tryz.digs 17 Go.Proofs.Tryz.f17 = true := by kernel_rfl
theorem Tryz.ok18 : fnB Tryz.cfg Tryz.digs 18 Go.Proofs.Tryz.f18 = true := by kernel_rfl
theorem Tryz.ok19 : fnB Tryz.cfg Tryz.digs 19 Go.Proofs.Tryz.f19 = true := by kernel_rfl
theorem Tryz.ok20 : fnB Tryz.cfg Tryz.digs 20 Go.Proofs.Tryz.f20 = true := by kernel_rfl
theorem Tryz.ok21 : fnB Tryz.cfg Tryz.digs 21 Go.Proofs.Tryz.f21 = true := by kernel_rfl
theorem Tryz.ok22 : fnB Tryz.cfg Tryz.digs 22 Go.Proofs.Tryz.f22 = true := by kernel_rfl
theorem Tryz.ok23 : fnB Tryz.cfg Tryz.digs 23 Go.Proofs.Tryz.f23 = true := by kernel_rfl
theorem Tryz.ok24 : fnB Tryz.cfg Tryz.digs 24 Go.Proofs.Tryz.f24 = true := by kernel_rfl
theorem Tryz.ok25 : fnB Tryz.cfg Tryz.digs 25 Go.Proofs.Tryz.f25 = true := by kernel_rfl
theorem Tryz.ok26 : fnB Tryz.cfg Tryz.digs 26 Go.Proofs.Tryz.f26 = true := by kernel_rfl
theorem Tryz.ok27 : fnB Tryz.cfg Tryz.digs 27 Go.Proofs.Tryz.f27 = true := by kernel_rfl
theorem Tryz.ok28 : fnB Tryz.cfg Tryz.digs 28 Go.Proofs.Tryz.f28 = true := by kernel_rfl
theorem Tryz.ok29 : fnB Tryz.cfg Tryz.digs 29 Go.Proofs.Tryz.f29 = true := by kernel_rfl
theorem Tryz.ok30 : fnB Tryz.cfg Tryz.digs 30 Go.Proofs.Tryz.f30 = true := by kernel_rfl
theorem Tryz.ok31 : fnB Tryz.cfg Tryz.digs 31 Go.Proofs.Tryz.f31 = true := by kernel_rfl
theorem Tryz.ok32 : fnB Tryz.cfg Tryz.digs 32 Go.Proofs.Tryz.f32 = true := by kernel_rfl
theorem Tryz.ok33 : fnB Tryz.cfg Tryz.digs 33 Go.Proofs.Tryz.f33 = true := by kernel_rfl
theorem Tryz.ok34 : fnB Tryz.cfg Tryz.digs 34 Go.Proofs.Tryz.f34 = true := by kernel_rfl
theorem Tryz.ok35 : fnB Tryz.cfg Tryz.digs 35 Go.Proofs.Tryz.f35 = true := by kernel_rfl
theorem Tryz.ok36 : fnB Tryz.cfg Tryz.digs 36 Go.Proofs.Tryz.f36 = true := by kernel_rfl
theorem Tryz.ok37 : fnB Tryz.cfg Tryz.digs 37 Go.Proofs.Tryz.f37 = true := by kernel_rfl
theorem Tryz.ok38 : fnB Tryz.cfg Tryz.digs 38 Go.Proofs.Tryz.f38 = true := by kernel_rfl
theorem Tryz.ok39 : fnB Tryz.cfg Tryz.digs 39 Go.Proofs.Tryz.f39 = true := by kernel_rfl
theorem Tryz.ok40 : fnB Tryz.cfg Tryz.digs 40 Go.Proofs.Tryz.f40 = true := by kernel_rfl
theorem Tryz.ok41 : fnB Tryz.cfg Tryz.digs 41 Go.Proofs.Tryz.f41 = true := by kernel_rfl
theorem Tryz.ok42 : fnB Tryz.cfg Tryz.digs 42 Go.Proofs.Tryz.f42 = true := by kernel_rfl
theorem Tryz.ok43 : fnB Tryz.cfg Tryz.digs 43 Go.Proofs.Tryz.f43 = true := by kernel_rfl
theorem Tryz.ok44 : fnB Tryz.cfg Tryz.digs 44 Go.Proofs.Tryz.f44 = true := by kernel_rfl
theorem Tryz.ok45 : fnB Tryz.cfg Tryz.digs 45 Go.Proofs.Tryz.f45 = true := by kernel_rfl
theorem Tryz.ok46 : fnB Tryz.cfg Tryz.digs 46 Go.Proofs.Tryz.f46 = true := by kernel_rfl
theorem Tryz.ok47 : fnB Tryz.cfg Tryz.digs 47 Go.Proofs.Tryz.f47 = true := by kernel_rfl
theorem Tryz.ok48 : fnB Tryz.cfg Tryz.digs 48 Go.Proofs.Tryz.f48 = true := by kernel_rfl
theorem Tryz.ok49 : fnB Tryz.cfg Tryz.digs 49 Go.Proofs.Tryz.f49 = true := by kernel_rfl
theorem Tryz.ok50 : fnB Tryz.cfg Tryz.digs 50 Go.Proofs.Tryz.f50 = true := by kernel_rfl
theorem Tryz.ok51 : fnB Tryz.cfg Tryz.digs 51 Go.Proofs.Tryz.f51 = true := by kernel_rfl
theorem Tryz.ok52 : fnB Tryz.cfg Tryz.digs 52 Go.Proofs.Tryz.f52 = true := by kernel_rfl
theorem Tryz.ok53 : fnB Tryz.cfg Tryz.digs 53 Go.Proofs.Tryz.f53 = true := by kernel_rfl
theorem Tryz.ok54 : fnB Tryz.cfg Tryz.digs 54 Go.Proofs.Tryz.f54 = true := by kernel_rfl
theorem Tryz.ok55 : fnB Tryz.cfg Tryz.digs 55 Go.Proofs.Tryz.f55 = true := by kernel_rfl
theorem Tryz.ok56 : fnB Tryz.cfg Tryz.digs 56 Go.Proofs.Tryz.f56 = true := by kernel_rfl
theorem Tryz.ok57 : fnB Tryz.cfg Tryz.digs 57 Go.Proofs.Tryz.f57 = true := by kernel_rfl
theorem Tryz.ok58 : fnB Tryz.cfg Tryz.digs 58 Go.Proofs.Tryz.f58 = true := by kernel_rfl
theorem Tryz.ok59 : fnB Tryz.cfg Tryz.digs 59 Go.Proofs.Tryz.f59 = true := by kernel_rfl
theorem Tryz.ok60 : fnB Tryz.cfg Tryz.digs 60 Go.Proofs.Tryz.f60 = true := by kernel_rfl
theorem Tryz.ok61 : fnB Tryz.cfg Tryz.digs 61 Go.Proofs.Tryz.f61 = true := by kernel_rfl
theorem Tryz.ok62 : fnB Tryz.cfg Tryz.digs 62 Go.Proofs.Tryz.f62 = true := by kernel_rfl
theorem Tryz.ok63 : fnB Tryz.cfg Tryz.digs 63 Go.Proofs.Tryz.f63 = true := by kernel_rfl
theorem Tryz.ok64 : fnB Tryz.cfg Tryz.digs 64 Go.Proofs.Tryz.f64 = true := by kernel_rfl
theorem Tryz.ok65 : fnB Tryz.cfg Tryz.digs 65 Go.Proofs.Tryz.f65 = true := by kernel_rfl
theorem Tryz.ok66 : fnB Tryz.cfg Tryz.digs 66 Go.Proofs.Tryz.f66 = true := by kernel_rfl
theorem Tryz.ok67 : fnB Tryz.cfg Tryz.digs 67 Go.Proofs.Tryz.f67 = true := by kernel_rfl
theorem Tryz.ok68 : fnB Tryz.cfg Tryz.digs 68 Go.Proofs.Tryz.f68 = true := by kernel_rfl
theorem Tryz.ok69 : fnB Tryz.cfg Tryz.digs 69 Go.Proofs.Tryz.f69 = true := by kernel_rfl
theorem Tryz.ok70 : fnB Tryz.cfg Tryz.digs 70 Go.Proofs.Tryz.f70 = true := by kernel_rfl
theorem Tryz.ok71 : fnB Tryz.cfg Tryz.digs 71 Go.Proofs.Tryz.f71 = true := by kernel_rfl
theorem Tryz.ok72 : fnB Tryz.cfg Tryz.digs 72 Go.Proofs.Tryz.f72 = true := by kernel_rfl
theorem Tryz.ok73 : fnB Tryz.cfg Tryz.digs 73 Go.Proofs.Tryz.f73 = true := by kernel_rfl
theorem Tryz.ok74 : fnB Tryz.cfg Tryz.digs 74 Go.Proofs.Tryz.f74 = true := by kernel_rfl
theorem Tryz.ok75 : fnB Tryz.cfg Tryz.digs 75 Go.Proofs.Tryz.f75 = true := by kernel_rfl
theorem Tryz.ok76 : fnB Tryz.cfg Tryz.digs 76 Go.Proofs.Tryz.f76 = true := by kernel_rfl
theorem Tryz.ok77 : fnB Tryz.cfg Tryz.digs 77 Go.Proofs.Tryz.f77 = true := by kernel_rfl
theorem Tryz.ok78 : fnB Tryz.cfg Tryz.digs 78 Go.Proofs.Tryz.f78 = true := by kernel_rfl
theorem Tryz.ok79 : fnB Tryz.cfg Tryz.digs 79 Go.Proofs.Tryz.f79 = true := by kernel_rfl
theorem Tryz.ok80 : fnB Tryz.cfg Tryz.digs 80 Go.Proofs.Tryz.f80 = true := by kernel_rfl
theorem Tryz.ok81 : fnB Tryz.cfg Tryz.digs 81 Go.Proofs.Tryz.f81 = true := by kernel_rfl
theorem Tryz.ok82 : fnB Tryz.cfg Tryz.digs 82 Go.Proofs.Tryz.f82 = true := by kernel_rfl
theorem Tryz.ok83 : fnB Tryz.cfg Tryz.digs 83 Go.Proofs.Tryz.f83 = true := by kernel_rfl
theorem Tryz.ok84 : fnB Tryz.cfg Tryz.digs 84 Go.Proofs.Tryz.f84 = true := by kernel_rfl
theorem Tryz.ok85 : fnB Tryz.cfg Tryz.digs 85 Go.Proofs.Tryz.f85 = true := by kernel_rfl
theorem Tryz.ok86 : fnB Tryz.cfg Tryz.digs 86 Go.Proofs.Tryz.f86 = true := by kernel_rfl
theorem Tryz.ok87 : fnB Tryz.cfg Tryz.digs 87 Go.Proofs.Tryz.f87 = true := by kernel_rfl
theorem Tryz.ok88 : fnB Tryz.cfg Tryz.digs 88 Go.Proofs.Tryz.f88 = true := by kernel_rfl
theorem Tryz.ok89 : fnB Tryz.cfg Tryz.digs 89 Go.Proofs.Tryz.f89 = true := by kernel_rfl
theorem Tryz.ok90 : fnB Tryz.cfg Tryz.digs 90 Go.Proofs.Tryz.f90 = true := by kernel_rfl
theorem Tryz.ok91 : fnB Tryz.cfg Tryz.digs 91 Go.Proofs.Tryz.f91 = true := by kernel_rfl
theorem Tryz.ok92 : fnB Tryz.cfg Tryz.digs 92 Go.Proofs.Tryz.f92 = true := by kernel_rfl
theorem Tryz.ok93 : fnB Tryz.cfg Tryz.digs 93 Go.Proofs.Tryz.f93 = true := by kernel_rfl
theorem Tryz.ok94 : fnB Tryz.cfg Tryz.digs 94 Go.Proofs.Tryz.f94 = true := by kernel_rfl
theorem Tryz.ok95 : fnB Tryz.cfg Tryz.digs 95 Go.Proofs.Tryz.f95 = true := by kernel_rfl
theorem Tryz.ok96 : fnB Tryz.cfg Tryz.digs 96 Go.Proofs.Tryz.f96 = true := by kernel_rfl
theorem Tryz.ok97 : fnB Tryz.cfg Tryz.digs 97 Go.Proofs.Tryz.f97 = true := by kernel_rfl
theorem Tryz.ok98 : fnB Tryz.cfg Tryz.digs 98 Go.Proofs.Tryz.f98 = true := by kernel_rfl
theorem Tryz.ok99 : fnB Tryz.cfg Tryz.digs 99 Go.Proofs.Tryz.f99 = true := by kernel_rfl
theorem Tryz.ok100 : fnB Tryz.cfg Tryz.digs 100 Go.Proofs.Tryz.f100 = true := by kernel_rfl
theorem Tryz.ok101 : fnB Tryz.cfg Tryz.digs 101 Go.Proofs.Tryz.f101 = true := by kernel_rfl
theorem Tryz.ok102 : fnB Tryz.cfg Tryz.digs 102 Go.Proofs.Tryz.f102 = true := by kernel_rfl
theorem Tryz.ok103 : fnB Tryz.cfg Tryz.digs 103 Go.Proofs.Tryz.f103 = true := by kernel_rfl
theorem Tryz.ok104 : fnB Tryz.cfg Tryz.digs 104 Go.Proofs.Tryz.f104 = true := by kernel_rfl
theorem Tryz.ok105 : fnB Tryz.cfg Tryz.digs 105 Go.Proofs.Tryz.f105 = true := by kernel_rfl
theorem Tryz.ok106 : fnB Tryz.cfg Tryz.digs 106 Go.Proofs.Tryz.f106 = true := by kernel_rfl
theorem Tryz.ok107 : fnB Tryz.cfg Tryz.digs 107 Go.Proofs.Tryz.f107 = true := by kernel_rfl
theorem Tryz.ok108 : fnB Tryz.cfg Tryz.digs 108 Go.Proofs.Tryz.f108 = true := by kernel_rfl
theorem Tryz.ok109 : fnB Tryz.cfg Tryz.digs 109 Go.Proofs.Tryz.f109 = true := by kernel_rfl
theorem Tryz.ok110 : fnB Tryz.cfg Tryz.digs 110 Go.Proofs.Tryz.f110 = true := by kernel_rfl
theorem Tryz.ok111 : fnB Tryz.cfg Tryz.digs 111 Go.Proofs.Tryz.f111 = true := by kernel_rfl
theorem Tryz.ok112 : fnB Tryz.cfg Tryz.digs 112 Go.Proofs.Tryz.f112 = true := by kernel_rfl
theorem Tryz.ok113 : fnB Tryz.cfg Tryz.digs 113 Go.Proofs.Tryz.f113 = true := by kernel_rfl
theorem Tryz.ok114 : fnB Tryz.cfg Tryz.digs 114 Go.Proofs.Tryz.f114 = true := by kernel_rfl
theorem Tryz.ok115 : fnB Tryz.cfg Tryz.digs 115 Go.Proofs.Tryz.f115 = true := by kernel_rfl
theorem Tryz.ok116 : fnB Tryz.cfg Tryz.digs 116 Go.Proofs.Tryz.f116 = true := by kernel_rfl
theorem Tryz.ok117 : fnB Tryz.cfg Tryz.digs 117 Go.Proofs.Tryz.f117 = true := by kernel_rfl
theorem Tryz.ok118 : fnB Tryz.cfg Tryz.digs 118 Go.Proofs.Tryz.f118 = true := by kernel_rfl
theorem Tryz.ok119 : fnB Tryz.cfg Tryz.digs 119 Go.Proofs.Tryz.f119 = true := by kernel_rfl
theorem Tryz.ok120 : fnB Tryz.cfg Tryz.digs 120 Go.Proofs.Tryz.f120 = true := by kernel_rfl
theorem Tryz.ok121 : fnB Tryz.cfg Tryz.digs 121 Go.Proofs.Tryz.f121 = true := by kernel_rfl
theorem Tryz.ok122 : fnB Tryz.cfg Tryz.digs 122 Go.Proofs.Tryz.f122 = true := by kernel_rfl
theorem Tryz.ok123 : fnB Tryz.cfg Tryz.digs 123 Go.Proofs.Tryz.f123 = true := by kernel_rfl
theorem Tryz.ok124 : fnB Tryz.cfg Tryz.digs 124 Go.Proofs.Tryz.f124 = true := by kernel_rfl
theorem Tryz.ok125 : fnB Tryz.cfg Tryz.digs 125 Go.Proofs.Tryz.f125 = true := by kernel_rfl
theorem Tryz.ok126 : fnB Tryz.cfg Tryz.digs 126 Go.Proofs.Tryz.f126 = true := by kernel_rfl
theorem Tryz.ok127 : fnB Tryz.cfg Tryz.digs 127 Go.Proofs.Tryz.f127 = true := by kernel_rfl
theorem Tryz.ok128 : fnB Tryz.cfg Tryz.digs 128 Go.Proofs.Tryz.f128 = true := by kernel_rfl
theorem Tryz.ok129 : fnB Tryz.cfg Tryz.digs 129 Go.Proofs.Tryz.f129 = true := by kernel_rfl
theorem Tryz.ok130 : fnB Tryz.cfg Tryz.digs 130 Go.Proofs.Tryz.f130 = true := by kernel_rfl
theorem Tryz.ok131 : fnB Tryz.cfg Tryz.digs 131 Go.Proofs.Tryz.f131 = true := by kernel_rfl
theorem Tryz.ok132 : fnB Tryz.cfg Tryz.digs 132 Go.Proofs.Tryz.f132 = true := by kernel_rfl
theorem Tryz.ok133 : fnB Tryz.cfg Tryz.digs 133 Go.Proofs.Tryz.f133 = true := by kernel_rfl
theorem Tryz.ok134 : fnB Tryz.cfg Tryz.digs 134 Go.Proofs.Tryz.f134 = true := by kernel_rfl
theorem Tryz.ok135 : fnB Tryz.cfg Tryz.digs 135 Go.Proofs.Tryz.f135 = true := by kernel_rfl
theorem Tryz.ok136 : fnB Tryz.cfg Tryz.digs 136 Go.Proofs.Tryz.f136 = true := by kernel_rfl
theorem Tryz.ok137 : fnB Tryz.cfg Tryz.digs 137 Go.Proofs.Tryz.f137 = true := by kernel_rfl
theorem Tryz.ok138 : fnB Tryz.cfg Tryz.digs 138 Go.Proofs.Tryz.f138 = true := by kernel_rfl
theorem Tryz.ok139 : fnB Tryz.cfg Tryz.digs 139 Go.Proofs.Tryz.f139 = true := by kernel_rfl
theorem Tryz.ok140 : fnB Tryz.cfg Tryz.digs 140 Go.Proofs.Tryz.f140 = true := by kernel_rfl
theorem Tryz.ok141 : fnB Tryz.cfg Tryz.digs 141 Go.Proofs.Tryz.f141 = true := by kernel_rfl
theorem Tryz.ok142 : fnB Tryz.cfg Tryz.digs 142 Go.Proofs.Tryz.f142 = true := by kernel_rfl
theorem Tryz.ok143 : fnB Tryz.cfg Tryz.digs 143 Go.Proofs.Tryz.f143 = true := by kernel_rfl
theorem Tryz.ok144 : fnB Tryz.cfg Tryz.digs 144 Go.Proofs.Tryz.f144 = true := by kernel_rfl
theorem Tryz.ok145 : fnB Tryz.cfg Tryz.digs 145 Go.Proofs.Tryz.f145 = true := by kernel_rfl
theorem Tryz.ok146 : fnB Tryz.cfg Tryz.digs 146 Go.Proofs.Tryz.f146 = true := by kernel_rfl
theorem Tryz.ok147 : fnB Tryz.cfg Tryz.digs 147 Go.Proofs.Tryz.f147 = true := by kernel_rfl
theorem Tryz.ok148 : fnB Tryz.cfg Tryz.digs 148 Go.Proofs.Tryz.f148 = true := by kernel_rfl
theorem Tryz.ok149 : fnB Tryz.cfg Tryz.digs 149 Go.Proofs.Tryz.f149 = true := by kernel_rfl
theorem Tryz.ok150 : fnB Tryz.cfg Tryz.digs 150 Go.Proofs.Tryz.f150 = true := by kernel_rfl
theorem Tryz.ok151 : fnB Tryz.cfg Tryz.digs 151 Go.Proofs.Tryz.f151 = true := by kernel_rfl
theorem Tryz.ok152 : fnB Tryz.cfg Tryz.digs 152 Go.Proofs.Tryz.f152 = true := by kernel_rfl
theorem Tryz.ok153 : fnB Tryz.cfg Tryz.digs 153 Go.Proofs.Tryz.f153 = true := by kernel_rfl
theorem Tryz.ok154 : fnB Tryz.cfg Tryz.digs 154 Go.Proofs.Tryz.f154 = true := by kernel_rfl
theorem Tryz.ok155 : fnB Tryz.cfg Tryz.digs 155 Go.Proofs.Tryz.f155 = true := by kernel_rfl
theorem Tryz.ok156 : fnB Tryz.cfg Tryz.digs 156 Go.Proofs.Tryz.f156 = true := by kernel_rfl
theorem Tryz.ok157 : fnB Tryz.cfg Tryz.digs 157 Go.Proofs.Tryz.f157 = true := by kernel_rfl
theorem Tryz.ok158 : fnB Tryz.cfg Tryz.digs 158 Go.Proofs.Tryz.f158 = true := by kernel_rfl
theorem Tryz.ok159 : fnB Tryz.cfg Tryz.digs 159 Go.Proofs.Tryz.f159 = true := by kernel_rfl
theorem Tryz.ok160 : fnB Tryz.cfg Tryz.digs 160 Go.Proofs.Tryz.f160 = true := by kernel_rfl
theorem Tryz.ok161 : fnB Tryz.cfg Tryz.digs 161 Go.Proofs.Tryz.f161 = true := by kernel_rfl
theorem Tryz.ok162 : fnB Tryz.cfg Tryz.digs 162 Go.Proofs.Tryz.f162 = true := by kernel_rfl
theorem Tryz.ok163 : fnB Tryz.cfg Tryz.digs 163 Go.Proofs.Tryz.f163 = true := by kernel_rfl
theorem Tryz.ok164 : fnB Tryz.cfg Tryz.digs 164 Go.Proofs.Tryz.f164 = true := by kernel_rfl
theorem Tryz.ok165 : fnB Tryz.cfg Tryz.digs 165 Go.Proofs.Tryz.f165 = true := by kernel_rfl
theorem Tryz.ok166 : fnB Tryz.cfg Tryz.digs 166 Go.Proofs.Tryz.f166 = true := by kernel_rfl
theorem Tryz.ok167 : fnB Tryz.cfg Tryz.digs 167 Go.Proofs.Tryz.f167 = true := by kernel_rfl
theorem Tryz.ok168 : fnB Tryz.cfg Tryz.digs 168 Go.Proofs.Tryz.f168 = true := by kernel_rfl
theorem Tryz.ok169 : fnB Tryz.cfg Tryz.digs 169 Go.Proofs.Tryz.f169 = true := by kernel_rfl
theorem Tryz.ok170 : fnB Tryz.cfg Tryz.digs 170 Go.Proofs.Tryz.f170 = true := by kernel_rfl
theorem Tryz.ok171 : fnB Tryz.cfg Tryz.digs 171 Go.Proofs.Tryz.f171 = true := by kernel_rfl
theorem Tryz.ok172 : fnB Tryz.cfg Tryz.digs 172 Go.Proofs.Tryz.f172 = true := by kernel_rfl
theorem Tryz.ok173 : fnB Tryz.cfg Tryz.digs 173 Go.Proofs.Tryz.f173 = true := by kernel_rfl
theorem Tryz.ok174 : fnB Tryz.cfg Tryz.digs 174 Go.Proofs.Tryz.f174 = true := by kernel_rfl
theorem Tryz.ok175 : fnB Tryz.cfg Tryz.digs 175 Go.Proofs.Tryz.f175 = true := by kernel_rfl
theorem Tryz.ok176 : fnB Tryz.cfg Tryz.digs 176 Go.Proofs.Tryz.f176 = true := by kernel_rfl
theorem Tryz.ok177 : fnB Tryz.cfg Tryz.digs 177 Go.Proofs.Tryz.f177 = true := by kernel_rfl
theorem Tryz.ok178 : fnB Tryz.cfg Tryz.digs 178 Go.Proofs.Tryz.f178 = true := by kernel_rfl
theorem Tryz.ok179 : fnB Tryz.cfg Tryz.digs 179 Go.Proofs.Tryz.f179 = true := by kernel_rfl
theorem Tryz.ok180 : fnB Tryz.cfg Tryz.digs 180 Go.Proofs.Tryz.f180 = true := by kernel_rfl
theorem Tryz.ok181 : fnB Tryz.cfg Tryz.digs 181 Go.Proofs.Tryz.f181 = true := by kernel_rfl
theorem Tryz.ok182 : fnB Tryz.cfg Tryz.digs 182 Go.Proofs.Tryz.f182 = true := by kernel_rfl
theorem Tryz.ok183 : fnB Tryz.cfg Tryz.digs 183 Go.Proofs.Tryz.f183 = true := by kernel_rfl
theorem Tryz.ok184 : fnB Tryz.cfg Tryz.digs 184 Go.Proofs.Tryz.f184 = true := by kernel_rfl
theorem Tryz.ok185 : fnB Tryz.cfg Tryz.digs 185 Go.Proofs.Tryz.f185 = true := by kernel_rfl
theorem Tryz.ok189 : fnB Tryz.cfg Tryz.digs 189 Go.Proofs.Tryz.f189 = true := by kernel_rfl
theorem Tryz.ok190 : fnB Tryz.cfg Tryz.digs 190 Go.Proofs.Tryz.f190 = true := by kernel_rfl
theorem Tryz.ok191 : fnB Tryz.cfg Tryz.digs 191 Go.Proofs.Tryz.f191 = true := by kernel_rfl
theorem Tryz.ok192 : fnB Tryz.cfg Tryz.digs 192 Go.Proofs.Tryz.f192 = true := by kernel_rfl
theorem Tryz.ok193 : fnB Tryz.cfg Tryz.digs 193 Go.Proofs.Tryz.f193 = true := by kernel_rfl
theorem Tryz.ok194 : fnB Tryz.cfg Tryz.digs 194 Go.Proofs.Tryz.f194 = true := by kernel_rfl
theorem Tryz.ok195 : fnB Tryz.cfg Tryz.digs 195 Go.Proofs.Tryz.f195 = true := by kernel_rfl
theorem Tryz.ok197 : fnB Tryz.cfg Tryz.digs 197 Go.Proofs.Tryz.f197 = true := by kernel_rfl
theorem Tryz.ok198 : fnB Tryz.cfg Tryz.digs 198 Go.Proofs.Tryz.f198 = true := by kernel_rfl
theorem Tryz.ok199 : fnB Tryz.cfg Tryz.digs 199 Go.Proofs.Tryz.f199 = true := by kernel_rfl
theorem Tryz.ok200 : fnB Tryz.cfg Tryz.digs 200 Go.Proofs.Tryz.f200 = true := by kernel_rfl
theorem Tryz.ok201 : fnB Tryz.cfg Tryz.digs 201 Go.Proofs.Tryz.f201 = true := by kernel_rfl
theorem Tryz.ok202 : fnB Tryz.cfg Tryz.digs 202 Go.Proofs.Tryz.f202 = true := by kernel_rfl
theorem Tryz.ok203 : fnB Tryz.cfg Tryz.digs 203 Go.Proofs.Tryz.f203 = true := by kernel_rfl
theorem Tryz.ok204 : fnB Tryz.cfg Tryz.digs 204 Go.Proofs.Tryz.f204 = true := by kernel_rfl
theorem Tryz.ok205 : fnB Tryz.cfg Tryz.digs 205 Go.Proofs.Tryz.f205 = true := by kernel_rfl
theorem Tryz.ok206 : fnB Tryz.cfg Tryz.digs 206 Go.Proofs.Tryz.f206 = true := by kernel_rfl
theorem Tryz.ok207 : fnB Tryz.cfg Tryz.digs 207 Go.Proofs.Tryz.f207 = true := by kernel_rfl
theorem Tryz.ok208 : fnB Tryz.cfg Tryz.digs 208 Go.Proofs.Tryz.f208 = true := by kernel_rfl
theorem Tryz.ok209 : fnB Tryz.cfg Tryz.digs 209 Go.Proofs.Tryz.f209 = true := by kernel_rfl
theorem Tryz.ok210 : fnB Tryz.cfg Tryz.digs 210 Go.Proofs.Tryz.f210 = true := by kernel_rfl
theorem Tryz.ok211 : fnB Tryz.cfg Tryz.digs 211 Go.Proofs.Tryz.f211 = true := by kernel_rfl
theorem Tryz.ok212 : fnB Tryz.cfg Tryz.digs 212 Go.Proofs.Tryz.f212 = true := by kernel_rfl
theorem Tryz.ok213 : fnB Tryz.cfg Tryz.digs 213 Go.Proofs.Tryz.f213 = true := by kernel_rfl
theorem Tryz.ok214 : fnB Tryz.cfg Tryz.digs 214 Go.Proofs.Tryz.f214 = true := by kernel_rfl
theorem Tryz.ok215 : fnB Tryz.cfg Tryz.digs 215 Go.Proofs.Tryz.f215 = true := by kernel_rfl
theorem Tryz.ok216 : fnB Tryz.cfg Tryz.digs 216 Go.Proofs.Tryz.f216 = true := by kernel_rfl
theorem Tryz.ok217 : fnB Tryz.cfg Tryz.digs 217 Go.Proofs.Tryz.f217 = true := by kernel_rfl
theorem Tryz.ok218 : fnB Tryz.cfg Tryz.digs 218 Go.Proofs.Tryz.f218 = true := by kernel_rfl
theorem Tryz.ok219 : fnB Tryz.cfg Tryz.digs 219 Go.Proofs.Tryz.f219 = true := by kernel_rfl
theorem Tryz.ok220 : fnB Tryz.cfg Tryz.digs 220 Go.Proofs.Tryz.f220 = true := by kernel_rfl
theorem Tryz.ok222 : fnB Tryz.cfg Tryz.digs 222 Go.Proofs.Tryz.f222 = true := by kernel_rfl
theorem Tryz.ok223 : fnB Tryz.cfg Tryz.digs 223 Go.Proofs.Tryz.f223 = true := by kernel_rfl
theorem Tryz.ok224 : fnB Tryz.cfg Tryz.digs 224 Go.Proofs.Tryz.f224 = true := by kernel_rfl
theorem Tryz.ok225 : fnB Tryz.cfg Tryz.digs 225 Go.Proofs.Tryz.f225 = true := by kernel_rfl
theorem Tryz.ok226 : fnB Tryz.cfg Tryz.digs 226 Go.Proofs.Tryz.f226 = true := by kernel_rfl
theorem Tryz.ok227 : fnB Tryz.cfg Tryz.digs 227 Go.Proofs.Tryz.f227 = true := by kernel_rfl
theorem Tryz.ok228 : fnB Tryz.cfg Tryz.digs 228 Go.Proofs.Tryz.f228 = true := by kernel_rfl
theorem Tryz.ok229 : fnB Tryz.cfg Tryz.digs 229 Go.Proofs.Tryz.f229 = true := by kernel_rfl
theorem Tryz.ok230 : fnB Tryz.cfg Tryz.digs 230 Go.Proofs.Tryz.f230 = true := by kernel_rfl
theorem Tryz.ok231 : fnB Tryz.cfg Tryz.digs 231 Go.Proofs.Tryz.f231 = true := by kernel_rfl
theorem Tryz.ok232 : fnB Tryz.cfg Tryz.digs 232 Go.Proofs.Tryz.f232 = true := by kernel_rfl
theorem Tryz.ok233 : fnB Tryz.cfg Tryz.digs 233 Go.Proofs.Tryz.f233 = true := by kernel_rfl
theorem Tryz.ok234 : fnB Tryz.cfg Tryz.digs 234 Go.Proofs.Tryz.f234 = true := by kernel_rfl
theorem Tryz.ok235 : fnB Tryz.cfg Tryz.digs 235 Go.Proofs.Tryz.f235 = true := by kernel_rfl
theorem Tryz.ok236 : fnB Tryz.cfg Tryz.digs 236 Go.Proofs.Tryz.f236 = true := by kernel_rfl
theorem Tryz.ok237 : fnB Tryz.cfg Tryz.digs 237 Go.Proofs.Tryz.f237 = true := by kernel_rfl
theorem Tryz.ok238 : fnB Tryz.cfg Tryz.digs 238 Go.Proofs.Tryz.f238 = true := by kernel_rfl
theorem Tryz.ok239 : fnB Tryz.cfg Tryz.digs 239 Go.Proofs.Tryz.f239 = true := by kernel_rfl
theorem Tryz.ok240 : fnB Tryz.cfg Tryz.digs 240 Go.Proofs.Tryz.f240 = true := by kernel_rfl
theorem Tryz.ok241 : fnB Tryz.cfg Tryz.digs 241 Go.Proofs.Tryz.f241 = true := by kernel_rfl
theorem Tryz.ok242 : fnB Tryz.cfg Tryz.digs 242 Go.Proofs.Tryz.f242 = true := by kernel_rfl
theorem Tryz.ok243 : fnB Tryz.cfg Tryz.digs 243 Go.Proofs.Tryz.f243 = true := by kernel_rfl
theorem Tryz.ok244 : fnB Tryz.cfg Tryz.digs 244 Go.Proofs.Tryz.f244 = true := by kernel_rfl
theorem Tryz.ok245 : fnB Tryz.cfg Tryz.digs 245 Go.Proofs.Tryz.f245 = true := by kernel_rfl
theorem Tryz.ok248 : fnB Tryz.cfg Tryz.digs 248 Go.Proofs.Tryz.f248 = true := by kernel_rfl
theorem Tryz.ok249 : fnB Tryz.cfg Tryz.digs 249 Go.Proofs.Tryz.f249 = true := by kernel_rfl
theorem Tryz.ok250 : fnB Tryz.cfg Tryz.digs 250 Go.Proofs.Tryz.f250 = true := by kernel_rfl
theorem Tryz.ok251 : fnB Tryz.cfg Tryz.digs 251 Go.Proofs.Tryz.f251 = true := by kernel_rfl
theorem Tryz.ok252 : fnB Tryz.cfg Tryz.digs 252 Go.Proofs.Tryz.f252 = true := by kernel_rfl
theorem Tryz.ok253 : fnB Tryz.cfg Tryz.digs 253 Go.Proofs.Tryz.f253 = true := by kernel_rfl
theorem Tryz.ok254 : fnB Tryz.cfg Tryz.digs 254 Go.Proofs.Tryz.f254 = true := by kernel_rfl
theorem Tryz.ok255 : fnB Tryz.cfg Tryz.digs 255 Go.Proofs.Tryz.f255 = true := by kernel_rfl
theorem Tryz.ok256 : fnB Tryz.cfg Tryz.digs 256 Go.Proofs.Tryz.f256 = true := by kernel_rfl
theorem Tryz.ok257 : fnB Tryz.cfg Tryz.digs 257 Go.Proofs.Tryz.f257 = true := by kernel_rfl
theorem Tryz.ok258 : fnB Tryz.cfg Tryz.digs 258 Go.Proofs.Tryz.f258 = true := by kernel_rfl
theorem Tryz.ok259 : fnB Tryz.cfg Tryz.digs 259 Go.Proofs.Tryz.f259 = true := by kernel_rfl
theorem Tryz.ok260 : fnB Tryz.cfg Tryz.digs 260 Go.Proofs.Tryz.f260 = true := by kernel_rfl
theorem Tryz.ok261 : fnB Tryz.cfg Tryz.digs 261 Go.Proofs.Tryz.f261 = true := by kernel_rfl
theorem Tryz.ok262 : fnB Tryz.cfg Tryz.digs 262 Go.Proofs.Tryz.f262 = true := by kernel_rfl
theorem Tryz.ok263 : fnB Tryz.cfg Tryz.digs 263 Go.Proofs.Tryz.f263 = true := by kernel_rfl
theorem Tryz.ok264 : fnB Tryz.cfg Tryz.digs 264 Go.Proofs.Tryz.f264 = true := by kernel_rfl
theorem Tryz.ok266 : fnB Tryz.cfg Tryz.digs 266 Go.Proofs.Tryz.f266 = true := by kernel_rfl
theorem Tryz.ok267 : fnB Tryz.cfg Tryz.digs 267 Go.Proofs.Tryz.f267 = true := by kernel_rfl
theorem Tryz.ok268 : fnB Tryz.cfg Tryz.digs 268 Go.Proofs.Tryz.f268 = true := by kernel_rfl
theorem Tryz.ok269 : fnB Tryz.cfg Tryz.digs 269 Go.Proofs.Tryz.f269 = true := by kernel_rfl
theorem Tryz.ok270 : fnB Tryz.cfg Tryz.digs 270 Go.Proofs.Tryz.f270 = true := by kernel_rfl
theorem Tryz.ok271 : fnB Tryz.cfg Tryz.digs 271 Go.Proofs.Tryz.f271 = true := by kernel_rfl
theorem Tryz.ok272 : fnB Tryz.cfg Tryz.digs 272 Go.Proofs.Tryz.f272 = true := by kernel_rfl
theorem Tryz.ok273 : fnB Tryz.cfg Tryz.digs 273 Go.Proofs.Tryz.f273 = true := by kernel_rfl
theorem Tryz.ok274 : fnB Tryz.cfg Tryz.digs 274 Go.Proofs.Tryz.f274 = true := by kernel_rfl
theorem Tryz.ok275 : fnB Tryz.cfg Tryz.digs 275 Go.Proofs.Tryz.f275 = true := by kernel_rfl
theorem Tryz.ok276 : fnB Tryz.cfg Tryz.digs 276 Go.Proofs.Tryz.f276 = true := by kernel_rfl
theorem Tryz.ok277 : fnB Tryz.cfg Tryz.digs 277 Go.Proofs.Tryz.f277 = true := by kernel_rfl
theorem Tryz.ok278 : fnB Tryz.cfg Tryz.digs 278 Go.Proofs.Tryz.f278 = true := by kernel_rfl
theorem Tryz.ok279 : fnB Tryz.cfg Tryz.digs 279 Go.Proofs.Tryz.f279 = true := by kernel_rfl
theorem Tryz.ok280 : fnB Tryz.cfg Tryz.digs 280 Go.Proofs.Tryz.f280 = true := by kernel_rfl
theorem Tryz.ok281 : fnB Tryz.cfg Tryz.digs 281 Go.Proofs.Tryz.f281 = true := by kernel_rfl
theorem Tryz.ok282 : fnB Tryz.cfg Tryz.digs 282 Go.Proofs.Tryz.f282 = true := by kernel_rfl
theorem Tryz.ok283 : fnB Tryz.cfg Tryz.digs 283 Go.Proofs.Tryz.f283 = true := by kernel_rfl
theorem Tryz.ok284 : fnB Tryz.cfg Tryz.digs 284 Go.Proofs.Tryz.f284 = true := by kernel_rfl
theorem Tryz.ok285 : fnB Tryz.cfg Tryz.digs 285 Go.Proofs.Tryz.f285 = true := by kernel_rfl
theorem Tryz.ok286 : fnB Tryz.cfg Tryz.digs 286 Go.Proofs.Tryz.f286 = true := by kernel_rfl
theorem Tryz.ok287 : fnB Tryz.cfg Tryz.digs 287 Go.Proofs.Tryz.f287 = true := by kernel_rfl
theorem Tryz.ok288 : fnB Tryz.cfg Tryz.digs 288 Go.Proofs.Tryz.f288 = true := by kernel_rfl
theorem Tryz.ok289 : fnB Tryz.cfg Tryz.digs 289 Go.Proofs.Tryz.f289 = true := by kernel_rfl
theorem Tryz.ok290 : fnB Tryz.cfg Tryz.digs 290 Go.Proofs.Tryz.f290 = true := by kernel_rfl
theorem Tryz.ok291 : fnB Tryz.cfg Tryz.digs 291 Go.Proofs.Tryz.f291 = true := by kernel_rfl
theorem Tryz.ok292 : fnB Tryz.cfg Tryz.digs 292 Go.Proofs.Tryz.f292 = true := by kernel_rfl
theorem Tryz.ok293 : fnB Tryz.cfg Tryz.digs 293 Go.Proofs.Tryz.f293 = true := by kernel_rfl
theorem Tryz.ok294 : fnB Tryz.cfg Tryz.digs 294 Go.Proofs.Tryz.f294 = true := by kernel_rfl
theorem Tryz.ok295 : fnB Tryz.cfg Tryz.digs 295 Go.Proofs.Tryz.f295 = true := by kernel_rfl
theorem Tryz.ok296 : fnB Tryz.cfg Tryz.digs 296 Go.Proofs.Tryz.f296 = true := by kernel_rfl
theorem Tryz.ok297 : fnB Tryz.cfg Tryz.digs 297 Go.Proofs.Tryz.f297 = true := by kernel_rfl
theorem Tryz.ok298 : fnB Tryz.cfg Tryz.digs 298 Go.Proofs.Tryz.f298 = true := by kernel_rfl
theorem Tryz.ok299 : fnB Tryz.cfg Tryz.digs 299 Go.Proofs.Tryz.f299 = true := by kernel_rfl
theorem Tryz.ok300 : fnB Tryz.cfg Tryz.digs 300 Go.Proofs.Tryz.f300 = true := by kernel_rfl
theorem Tryz.ok301 : fnB Tryz.cfg Tryz.digs 301 Go.Proofs.Tryz.f301 = true := by kernel_rfl
theorem Tryz.ok302 : fnB Tryz.cfg Tryz.digs 302 Go.Proofs.Tryz.f302 = true := by kernel_rfl
theorem Tryz.ok303 : fnB Tryz.cfg Tryz.digs 303 Go.Proofs.Tryz.f303 = true := by kernel_rfl
theorem Tryz.ok304 : fnB Tryz.cfg Tryz.digs 304 Go.Proofs.Tryz.f304 = true := by kernel_rfl
theorem Tryz.ok305 : fnB Tryz.cfg Tryz.digs 305 Go.Proofs.Tryz.f305 = true := by kernel_rfl
theorem Tryz.ok306 : fnB Tryz.cfg Tryz.digs 306 Go.Proofs.Tryz.f306 = true := by kernel_rfl
theorem Tryz.ok307 : fnB Tryz.cfg Tryz.digs 307 Go.Proofs.Tryz.f307 = true := by kernel_rfl
theorem Tryz.ok308 : fnB Tryz.cfg Tryz.digs 308 Go.Proofs.Tryz.f308 = true := by kernel_rfl
theorem Tryz.ok309 : fnB Tryz.cfg Tryz.digs 309 Go.Proofs.Tryz.f309 = true := by kernel_rfl
theorem Tryz.ok310 : fnB Tryz.cfg Tryz.digs 310 Go.Proofs.Tryz.f310 = true := by kernel_rfl
theorem Tryz.ok311 : fnB Tryz.cfg Tryz.digs 311 Go.Proofs.Tryz.f311 = true := by kernel_rfl
theorem Tryz.ok312 : fnB Tryz.cfg Tryz.digs 312 Go.Proofs.Tryz.f312 = true := by kernel_rfl
theorem Tryz.ok313 : fnB Tryz.cfg Tryz.digs 313 Go.Proofs.Tryz.f313 = true := by kernel_rfl
theorem Tryz.ok314 : fnB Tryz.cfg Tryz.digs 314 Go.Proofs.Tryz.f314 = true := by kernel_rfl
theorem Tryz.ok315 : fnB Tryz.cfg Tryz.digs 315 Go.Proofs.Tryz.f315 = true := by kernel_rfl
theorem Tryz.ok316 : fnB Tryz.cfg Tryz.digs 316 Go.Proofs.Tryz.f316 = true := by kernel_rfl
theorem Tryz.ok317 : fnB Tryz.cfg Tryz.digs 317 Go.Proofs.Tryz.f317 = true := by kernel_rfl
theorem Tryz.ok318 : fnB Tryz.cfg Tryz.digs 318 Go.Proofs.Tryz.f318 = true := by kernel_rfl
theorem Tryz.ok319 : fnB Tryz.cfg Tryz.digs 319 Go.Proofs.Tryz.f319 = true := by kernel_rfl
theorem Tryz.ok320 : fnB Tryz.cfg Tryz.digs 320 Go.Proofs.Tryz.f320 = true := by kernel_rfl
theorem Tryz.ok321 : fnB Tryz.cfg Tryz.digs 321 Go.Proofs.Tryz.f321 = true := by kernel_rfl
theorem Tryz.ok322 : fnB Tryz.cfg Tryz.digs 322 Go.Proofs.Tryz.f322 = true := by kernel_rfl
theorem Tryz.ok323 : fnB Tryz.cfg Tryz.digs 323 Go.Proofs.Tryz.f323 = true := by kernel_rfl
theorem Tryz.ok324 : fnB Tryz.cfg Tryz.digs 324 Go.Proofs.Tryz.f324 = true := by kernel_rfl
theorem Tryz.ok325 : fnB Tryz.cfg Tryz.digs 325 Go.Proofs.Tryz.f325 = true := by kernel_rfl
theorem Tryz.ok326 : fnB Tryz.cfg Tryz.digs 326 Go.Proofs.Tryz.f326 = true := by kernel_rfl
theorem Tryz.ok327 : fnB Tryz.cfg Tryz.digs 327 Go.Proofs.Tryz.f327 = true := by kernel_rfl
theorem Tryz.ok328 : fnB Tryz.cfg Tryz.digs 328 Go.Proofs.Tryz.f328 = true := by kernel_rfl
theorem Tryz.ok329 : fnB Tryz.cfg Tryz.digs 329 Go.Proofs.Tryz.f329 = true := by kernel_rfl
theorem Tryz.ok330 : fnB Tryz.cfg Tryz.digs 330 Go.Proofs.Tryz.f330 = true := by kernel_rfl
theorem Tryz.ok331 : fnB Tryz.cfg Tryz.digs 331 Go.Proofs.Tryz.f331 = true := by kernel_rfl
theorem Tryz.ok332 : fnB Tryz.cfg Tryz.digs 332 Go.Proofs.Tryz.f332 = true := by kernel_rfl
theorem Tryz.ok333 : fnB Tryz.cfg Tryz.digs 333 Go.Proofs.Tryz.f333 = true := by kernel_rfl
theorem Tryz.ok334 : fnB Tryz.cfg Tryz.digs 334 Go.Proofs.Tryz.f334 = true := by kernel_rfl
theorem Tryz.ok335 : fnB Tryz.cfg Tryz.digs 335 Go.Proofs.Tryz.f335 = true := by kernel_rfl
theorem Tryz.ok337 : fnB Tryz.cfg Tryz.digs 337 Go.Proofs.Tryz.f337 = true := by kernel_rfl
theorem Tryz.ok338 : fnB Tryz.cfg Tryz.digs 338 Go.Proofs.Tryz.f338 = true := by kernel_rfl
theorem Tryz.ok339 : fnB Tryz.cfg Tryz.digs 339 Go.Proofs.Tryz.f339 = true := by kernel_rfl
theorem Tryz.ok340 : fnB Tryz.cfg Tryz.digs 340 Go.Proofs.Tryz.f340 = true := by kernel_rfl
theorem Tryz.ok341 : fnB Tryz.cfg Tryz.digs 341 Go.Proofs.Tryz.f341 = true := by kernel_rfl
theorem Tryz.ok342 : fnB Tryz.cfg Tryz.digs 342 Go.Proofs.Tryz.f342 = true := by kernel_rfl
theorem Tryz.ok343 : fnB Tryz.cfg Tryz.digs 343 Go.Proofs.Tryz.f343 = true := by kernel_rfl
theorem Tryz.ok344 : fnB Tryz.cfg Tryz.digs 344 Go.Proofs.Tryz.f344 = true := by kernel_rfl
theorem Tryz.ok345 : fnB Tryz.cfg Tryz.digs 345 Go.Proofs.Tryz.f345 = true := by kernel_rfl
theorem Tryz.ok346 : fnB Tryz.cfg Tryz.digs 346 Go.Proofs.Tryz.f346 = true := by kernel_rfl
theorem Tryz.ok347 : fnB Tryz.cfg Tryz.digs 347 Go.Proofs.Tryz.f347 = true := by kernel_rfl
theorem Tryz.ok348 : fnB Tryz.cfg Tryz.digs 348 Go.Proofs.Tryz.f348 = true := by kernel_rfl
theorem Tryz.ok349 : fnB Tryz.cfg Tryz.digs 349 Go.Proofs.Tryz.f349 = true := by kernel_rfl
theorem Tryz.ok350 : fnB Tryz.cfg Tryz.digs 350 Go.Proofs.Tryz.f350 = true := by kernel_rfl
theorem Tryz.ok351 : fnB Tryz.cfg Tryz.digs 351 Go.Proofs.Tryz.f351 = true := by kernel_rfl
theorem Tryz.ok352 : fnB Tryz.cfg Tryz.digs 352 Go.Proofs.Tryz.f352 = true := by kernel_rfl
theorem Tryz.ok353 : fnB Tryz.cfg Tryz.digs 353 Go.Proofs.Tryz.f353 = true := by kernel_rfl
theorem Tryz.ok354 : fnB Tryz.cfg Tryz.digs 354 Go.Proofs.Tryz.f354 = true := by kernel_rfl
theorem Tryz.ok355 : fnB Tryz.cfg Tryz.digs 355 Go.Proofs.Tryz.f355 = true := by kernel_rfl
theorem Tryz.ok379 : fnB Tryz.cfg Tryz.digs 379 Go.Proofs.Tryz.f379 = true := by kernel_rfl
theorem Tryz.ok384 : fnB Tryz.cfg Tryz.digs 384 Go.Proofs.Tryz.f384 = true := by kernel_rfl
theorem Tryz.ok387 : fnB Tryz.cfg Tryz.digs 387 Go.Proofs.Tryz.f387 = true := by kernel_rfl
theorem Tryz.ok401 : fnB Tryz.cfg Tryz.digs 401 Go.Proofs.Tryz.f401 = true := by kernel_rfl
theorem Tryz.ok403 : fnB Tryz.cfg Tryz.digs 403 Go.Proofs.Tryz.f403 = true := by kernel_rfl
theorem Tryz.ok407 : fnB Tryz.cfg Tryz.digs 407 Go.Proofs.Tryz.f407 = true := by kernel_rfl
theorem Tryz.ok409 : fnB Tryz.cfg Tryz.digs 409 Go.Proofs.Tryz.f409 = true := by kernel_rfl
theorem Tryz.ok411 : fnB Tryz.cfg Tryz.digs 411 Go.Proofs.Tryz.f411 = true := by kernel_rfl
theorem Tryz.ok413 : fnB Tryz.cfg Tryz.digs 413 Go.Proofs.Tryz.f413 = true := by kernel_rfl
theorem Tryz.ok418 : fnB Tryz.cfg Tryz.digs 418 Go.Proofs.Tryz.f418 = true := by kernel_rfl
theorem Tryz.ok420 : fnB Tryz.cfg Tryz.digs 420 Go.Proofs.Tryz.f420 = true := by kernel_rfl
theorem Tryz.fnsOk : FnsOk Go.Proofs.Tryz.prog Tryz.cfg Tryz.digs Tryz.fns := ⟨Go.Proofs.Tryz.func2, Tryz.ok2, Go.Proofs.Tryz.func3, Tryz.ok3, Go.Proofs.Tryz.func4, Tryz.ok4, Go.Proofs.Tryz.func5, Tryz.ok5, Go.Proofs.Tryz.func6, Tryz.ok6, Go.Proofs.Tryz.func7, Tryz.ok7, Go.Proofs.Tryz.func8, Tryz.ok8, Go.Proofs.Tryz.func9, Tryz.ok9, Go.Proofs.Tryz.func10, Tryz.ok10, Go.Proofs.Tryz.func11, Tryz.ok11, Go.Proofs.Tryz.func12, Tryz.ok12, Go.Proofs.Tryz.func13, Tryz.ok13, Go.Proofs.Tryz.func14, Tryz.ok14, Go.Proofs.Tryz.func15, Tryz.ok15, Go.Proofs.Tryz.func16, Tryz.ok16, Go.Proofs.Tryz.func17, Tryz.ok17, Go.Proofs.Tryz.func18, Tryz.ok18, Go.Proofs.Tryz.func19, Tryz.ok19, Go.Proofs.Tryz.func20, Tryz.ok20, Go.Proofs.Tryz.func21, Tryz.ok21, Go.Proofs.Tryz.func22, Tryz.ok22, Go.Proofs.Tryz.func23, Tryz.ok23, Go.Proofs.Tryz.func24, Tryz.ok24, Go.Proofs.Tryz.func25, Tryz.ok25, Go.Proofs.Tryz.func26, Tryz.ok26, Go.Proofs.Tryz.func27, Tryz.ok27, Go.Proofs.Tryz.func28, Tryz.ok28, Go.Proofs.Tryz.func29, Tryz.ok29, Go.Proofs.Tryz.func30, Tryz.ok30, Go.Proofs.Tryz.func31, Tryz.ok31, Go.Proofs.Tryz.func32, Tryz.ok32, Go.Proofs.Tryz.func33, Tryz.ok33, Go.Proofs.Tryz.func34, Tryz.ok34, Go.Proofs.Tryz.func35, Tryz.ok35, Go.Proofs.Tryz.func36, Tryz.ok36, Go.Proofs.Tryz.func37, Tryz.ok37, Go.Proofs.Tryz.func38, Tryz.ok38, Go.Proofs.Tryz.func39, Tryz.ok39, Go.Proofs.Tryz.func40, Tryz.ok40, Go.Proofs.Tryz.func41, Tryz.ok41, Go.Proofs.Tryz.func42, Tryz.ok42, Go.Proofs.Tryz.func43, Tryz.ok43, Go.Proofs.Tryz.func44, Tryz.ok44, Go.Proofs.Tryz.func45, Tryz.ok45, Go.Proofs.Tryz.func46, Tryz.ok46, Go.Proofs.Tryz.func47, Tryz.ok47, Go.Proofs.Tryz.func48, Tryz.ok48, Go.Proofs.Tryz.func49, Tryz.ok49, Go.Proofs.Tryz.func50, Tryz.ok50, Go.Proofs.Tryz.func51, Tryz.ok51, Go.Proofs.Tryz.func52, Tryz.ok52, Go.Proofs.Tryz.func53, Tryz.ok53, Go.Proofs.Tryz.func54, Tryz.ok54, Go.Proofs.Tryz.func55, Tryz.ok55, Go.Proofs.Tryz.func56, Tryz.ok56, Go.Proofs.Tryz.func57, Tryz.ok57, Go.Proofs.Tryz.func58, Tryz.ok58, Go.Proofs.Tryz.func59, Tryz.ok59, Go.Proofs.Tryz.func60, Tryz.ok60, Go.Proofs.Tryz.func61, Tryz.ok61, Go.Proofs.Tryz.func62, Tryz.ok62, Go.Proofs.Tryz.func63, Tryz.ok63, Go.Proofs.Tryz.func64, Tryz.ok64, Go.Proofs.Tryz.func65, Tryz.ok65, Go.Proofs.Tryz.func66, Tryz.ok66, Go.Proofs.Tryz.func67, Tryz.ok67, Go.Proofs.Tryz.func68, Tryz.ok68, Go.Proofs.Tryz.func69, Tryz.ok69, Go.Proofs.Tryz.func70, Tryz.ok70, Go.Proofs.Tryz.func71, Tryz.ok71, Go.Proofs.Tryz.func72, Tryz.ok72, Go.Proofs.Tryz.func73, Tryz.ok73, Go.Proofs.Tryz.func74, Tryz.ok74, Go.Proofs.Tryz.func75, Tryz.ok75, Go.Proofs.Tryz.func76, Tryz.ok76, Go.Proofs.Tryz.func77, Tryz.ok77, Go.Proofs.Tryz.func78, Tryz.ok78, Go.Proofs.Tryz.func79, Tryz.ok79, Go.Proofs.Tryz.func80, Tryz.ok80, Go.Proofs.Tryz.func81, Tryz.ok81, Go.Proofs.Tryz.func82, Tryz.ok82, Go.Proofs.Tryz.func83, Tryz.ok83, Go.Proofs.Tryz.func84, Tryz.ok84, Go.Proofs.Tryz.func85, Tryz.ok85, Go.Proofs.Tryz.func86, Tryz.ok86, Go.Proofs.Tryz.func87, Tryz.ok87, Go.Proofs.Tryz.func88, Tryz.ok88, Go.Proofs.Tryz.func89, Tryz.ok89, Go.Proofs.Tryz.func90, Tryz.ok90, Go.Proofs.Tryz.func91, Tryz.ok91, Go.Proofs.Tryz.func92, Tryz.ok92, Go.Proofs.Tryz.func93, Tryz.ok93, Go.Proofs.Tryz.func94, Tryz.ok94, Go.Proofs.Tryz.func95, Tryz.ok95, Go.Proofs.Tryz.func96, Tryz.ok96, Go.Proofs.Tryz.func97, Tryz.ok97, Go.Proofs.Tryz.func98, Tryz.ok98, Go.Proofs.Tryz.func99, Tryz.ok99, Go.Proofs.Tryz.func100, Tryz.ok100, Go.Proofs.Tryz.func101, Tryz.ok101, Go.Proofs.Tryz.func102, Tryz.ok102, Go.Proofs.Tryz.func103, Tryz.ok103, Go.Proofs.Tryz.func104, Tryz.ok104, Go.Proofs.Tryz.func105, Tryz.ok105, Go.Proofs.Tryz.func106, Tryz.ok106, Go.Proofs.Tryz.func107, Tryz.ok107, Go.Proofs.Tryz.func108, Tryz.ok108, Go.Proofs.Tryz.func109, Tryz.ok109, Go.Proofs.Tryz.func110, Tryz.ok110, Go.Proofs.Tryz.func111, Tryz.ok111, Go.Proofs.Tryz.func112, Tryz.ok112, Go.Proofs.Tryz.func113, Tryz.ok113, Go.Proofs.Tryz.func114, Tryz.ok114, Go.Proofs.Tryz.func115, Tryz.ok115, Go.Proofs.Tryz.func116, Tryz.ok116, Go.Proofs.Tryz.func117, Tryz.ok117, Go.Proofs.Tryz.func118, Tryz.ok118, Go.Proofs.Tryz.func119, Tryz.ok119, Go.Proofs.Tryz.func120, Tryz.ok120, Go.Proofs.Tryz.func121, Tryz.ok121, Go.Proofs.Tryz.func122, Tryz.ok122, Go.Proofs.Tryz.func123, Tryz.ok123, Go.Proofs.Tryz.func124, Tryz.ok124, Go.Proofs.Tryz.func125, Tryz.ok125, Go.Proofs.Tryz.func126, Tryz.ok126, Go.Proofs.Tryz.func127, Tryz.ok127, Go.Proofs.Tryz.func128, Tryz.ok128, Go.Proofs.Tryz.func129, Tryz.ok129, Go.Proofs.Tryz.func130, Tryz.ok130, Go.Proofs.Tryz.func131, Tryz.ok131, Go.Proofs.Tryz.func132, Tryz.ok132, Go.Proofs.Tryz.func133, Tryz.ok133, Go.Proofs.Tryz.func134, Tryz.ok134, Go.Proofs.Tryz.func135, Tryz.ok135, Go.Proofs.Tryz.func136, Tryz.ok136, Go.Proofs.Tryz.func137, Tryz.ok137, Go.Proofs.Tryz.func138, Tryz.ok138, Go.Proofs.Tryz.func139, Tryz.ok139, Go.Proofs.Tryz.func140, Tryz.ok140, Go.Proofs.Tryz.func141, Tryz.ok141, Go.Proofs.Tryz.func142, Tryz.ok142, Go.Proofs.Tryz.func143, Tryz.ok143, Go.Proofs.Tryz.func144, Tryz.ok144, Go.Proofs.Tryz.func145, Tryz.ok145, Go.Proofs.Tryz.func146, Tryz.ok146, Go.Proofs.Tryz.func147, Tryz.ok147, Go.Proofs.Tryz.func148, Tryz.ok148, Go.Proofs.Tryz.func149, Tryz.ok149, Go.Proofs.Tryz.func150, Tryz.ok150, Go.Proofs.Tryz.func151, Tryz.ok151, Go.Proofs.Tryz.func152, Tryz.ok152, Go.Proofs.Tryz.func153, Tryz.ok153, Go.Proofs.Tryz.func154, Tryz.ok154, Go.Proofs.Tryz.func155, Tryz.ok155, Go.Proofs.Tryz.func156, Tryz.ok156, Go.Proofs.Tryz.func157, Tryz.ok157, Go.Proofs.Tryz.func158, Tryz.ok158, Go.Proofs.Tryz.func159, Tryz.ok159, Go.Proofs.Tryz.func160, Tryz.ok160, Go.Proofs.Tryz.func161, Tryz.ok161, Go.Proofs.Tryz.func162, Tryz.ok162, Go.Proofs.Tryz.func163, Tryz.ok163, Go.Proofs.Tryz.func164, Tryz.ok164, Go.Proofs.Tryz.func165, Tryz.ok165, Go.Proofs.Tryz.func166, Tryz.ok166, Go.Proofs.Tryz.func167, Tryz.ok167, Go.Proofs.Tryz.func168, Tryz.ok168, Go.Proofs.Tryz.func169, Tryz.ok169, Go.Proofs.Tryz.func170, Tryz.ok170, Go.Proofs.Tryz.func171, Tryz.ok171, Go.Proofs.Tryz.func172, Tryz.ok172, Go.Proofs.Tryz.func173, Tryz.ok173, Go.Proofs.Tryz.func174, Tryz.ok174, Go.Proofs.Tryz.func175, Tryz.ok175, Go.Proofs.Tryz.func176, Tryz.ok176, Go.Proofs.Tryz.func177, Tryz.ok177, Go.Proofs.Tryz.func178, Tryz.ok178, Go.Proofs.Tryz.func179, Tryz.ok179, Go.Proofs.Tryz.func180, Tryz.ok180, Go.Proofs.Tryz.func181, Tryz.ok181, Go.Proofs.Tryz.func182, Tryz.ok182, Go.Proofs.Tryz.func183, Tryz.ok183, Go.Proofs.Tryz.func184, Tryz.ok184, Go.Proofs.Tryz.func185, Tryz.ok185, Go.Proofs.Tryz.func189, Tryz.ok189, Go.Proofs.Tryz.func190, Tryz.ok190, Go.Proofs.Tryz.func191, Tryz.ok191, Go.Proofs.Tryz.func192, Tryz.ok192, Go.Proofs.Tryz.func193, Tryz.ok193, Go.Proofs.Tryz.func194, Tryz.ok194, Go.Proofs.Tryz.func195, Tryz.ok195, Go.Proofs.Tryz.func197, Tryz.ok197, Go.Proofs.Tryz.func198, Tryz.ok198, Go.Proofs.Tryz.func199, Tryz.ok199, Go.Proofs.Tryz.func200, Tryz.ok200, Go.Proofs.Tryz.func201, Tryz.ok201, Go.Proofs.Tryz.func202, Tryz.ok202, Go.Proofs.Tryz.func203, Tryz.ok203, Go.Proofs.Tryz.func204, Tryz.ok204, Go.Proofs.Tryz.func205, Tryz.ok205, Go.Proofs.Tryz.func206, Tryz.ok206, Go.Proofs.Tryz.func207, Tryz.ok207, Go.Proofs.Tryz.func208, Tryz.ok208, Go.Proofs.Tryz.func209, Tryz.ok209, Go.Proofs.Tryz.func210, Tryz.ok210, Go.Proofs.Tryz.func211, Tryz.ok211, Go.Proofs.Tryz.func212, Tryz.ok212, Go.Proofs.Tryz.func213, Tryz.ok213, Go.Proofs.Tryz.func214, Tryz.ok214, Go.Proofs.Tryz.func215, Tryz.ok215, Go.Proofs.Tryz.func216, Tryz.ok216, Go.Proofs.Tryz.func217, Tryz.ok217, Go.Proofs.Tryz.func218, Tryz.ok218, Go.Proofs.Tryz.func219, Tryz.ok219, Go.Proofs.Tryz.func220, Tryz.ok220, Go.Proofs.Tryz.func222, Tryz.ok222, Go.Proofs.Tryz.func223, Tryz.ok223, Go.Proofs.Tryz.func224, Tryz.ok224, Go.Proofs.Tryz.func225, Tryz.ok225, Go.Proofs.Tryz.func226, Tryz.ok226, Go.Proofs.Tryz.func227, Tryz.ok227, Go.Proofs.Tryz.func228, Tryz.ok228, Go.Proofs.Tryz.func229, Tryz.ok229, Go.Proofs.Tryz.func230, Tryz.ok230, Go.Proofs.Tryz.func231, Tryz.ok231, Go.Proofs.Tryz.func232, Tryz.ok232, Go.Proofs.Tryz.func233, Tryz.ok233, Go.Proofs.Tryz.func234, Tryz.ok234, Go.Proofs.Tryz.func235, Tryz.ok235, Go.Proofs.Tryz.func236, Tryz.ok236, Go.Proofs.Tryz.func237, Tryz.ok237, Go.Proofs.Tryz.func238, Tryz.ok238, Go.Proofs.Tryz.func239, Tryz.ok239, Go.Proofs.Tryz.func240, Tryz.ok240, Go.Proofs.Tryz.func241, Tryz.ok241, Go.Proofs.Tryz.func242, Tryz.ok242, Go.Proofs.Tryz.func243, Tryz.ok243, Go.Proofs.Tryz.func244, Tryz.ok244, Go.Proofs.Tryz.func245, Tryz.ok245, Go.Proofs.Tryz.func248, Tryz.ok248, Go.Proofs.Tryz.func249, Tryz.ok249, Go.Proofs.Tryz.func250, Tryz.ok250, Go.Proofs.Tryz.func251, Tryz.ok251, Go.Proofs.Tryz.func252, Tryz.ok252, Go.Proofs.Tryz.func253, Tryz.ok253, Go.Proofs.Tryz.func254, Tryz.ok254, Go.Proofs.Tryz.func255, Tryz.ok255, Go.Proofs.Tryz.func256, Tryz.ok256, Go.Proofs.Tryz.func257, Tryz.ok257, Go.Proofs.Tryz.func258, Tryz.ok258, Go.Proofs.Tryz.func259, Tryz.ok259, Go.Proofs.Tryz.func260, Tryz.ok260, Go.Proofs.Tryz.func261, Tryz.ok261, Go.Proofs.Tryz.func262, Tryz.ok262, Go.Proofs.Tryz.func263, Tryz.ok263, Go.Proofs.Tryz.func264, Tryz.ok264, Go.Proofs.Tryz.func266, Tryz.ok266, Go.Proofs.Tryz.func267, Tryz.ok267, Go.Proofs.Tryz.func268, Tryz.ok268, Go.Proofs.Tryz.func269, Tryz.ok269, Go.Proofs.Tryz.func270, Tryz.ok270, Go.Proofs.Tryz.func271, Tryz.ok271, Go.Proofs.Tryz.func272, Tryz.ok272, Go.Proofs.Tryz.func273, Tryz.ok273, Go.Proofs.Tryz.func274, Tryz.ok274, Go.Proofs.Tryz.func275, Tryz.ok275, Go.Proofs.Tryz.func276, Tryz.ok276, Go.Proofs.Tryz.func277, Tryz.ok277, Go.Proofs.Tryz.func278, Tryz.ok278, Go.Proofs.Tryz.func279, Tryz.ok279, Go.Proofs.Tryz.func280, Tryz.ok280, Go.Proofs.Tryz.func281, Tryz.ok281, Go.Proofs.Tryz.func282, Tryz.ok282, Go.Proofs.Tryz.func283, Tryz.ok283, Go.Proofs.Tryz.func284, Tryz.ok284, Go.Proofs.Tryz.func285, Tryz.ok285, Go.Proofs.Tryz.func286, Tryz.ok286, Go.Proofs.Tryz.func287, Tryz.ok287, Go.Proofs.Tryz.func288, Tryz.ok288, Go.Proofs.Tryz.func289, Tryz.ok289, Go.Proofs.Tryz.func290, Tryz.ok290, Go.Proofs.Tryz.func291, Tryz.ok291, Go.Proofs.Tryz.func292, Tryz.ok292, Go.Proofs.Tryz.func293, Tryz.ok293, Go.Proofs.Tryz.func294, Tryz.ok294, Go.Proofs.Tryz.func295, Tryz.ok295, Go.Proofs.Tryz.func296, Tryz.ok296, Go.Proofs.Tryz.func297, Tryz.ok297, Go.Proofs.Tryz.func298, Tryz.ok298, Go.Proofs.Tryz.func299, Tryz.ok299, Go.Proofs.Tryz.func300, Tryz.ok300, Go.Proofs.Tryz.func301, Tryz.ok301, Go.Proofs.Tryz.func302, Tryz.ok302, Go.Proofs.Tryz.func303, Tryz.ok303, Go.Proofs.Tryz.func304, Tryz.ok304, Go.Proofs.Tryz.func305, Tryz.ok305, Go.Proofs.Tryz.func306, Tryz.ok306, Go.Proofs.Tryz.func307, Tryz.ok307, Go.Proofs.Tryz.func308, Tryz.ok308, Go.Proofs.Tryz.func309, Tryz.ok309, Go.Proofs.Tryz.func310, Tryz.ok310, Go.Proofs.Tryz.func311, Tryz.ok311, Go.Proofs.Tryz.func312, Tryz.ok312, Go.Proofs.Tryz.func313, Tryz.ok313, Go.Proofs.Tryz.func314, Tryz.ok314, Go.Proofs.Tryz.func315, Tryz.ok315, Go.Proofs.Tryz.func316, Tryz.ok316, Go.Proofs.Tryz.func317, Tryz.ok317, Go.Proofs.Tryz.func318, Tryz.ok318, Go.Proofs.Tryz.func319, Tryz.ok319, Go.Proofs.Tryz.func320, Tryz.ok320, Go.Proofs.Tryz.func321, Tryz.ok321, Go.Proofs.Tryz.func322, Tryz.ok322, Go.Proofs.Tryz.func323, Tryz.ok323, Go.Proofs.Tryz.func324, Tryz.ok324, Go.Proofs.Tryz.func325, Tryz.ok325, Go.Proofs.Tryz.func326, Tryz.ok326, Go.Proofs.Tryz.func327, Tryz.ok327, Go.Proofs.Tryz.func328, Tryz.ok328, Go.Proofs.Tryz.func329, Tryz.ok329, Go.Proofs.Tryz.func330, Tryz.ok330, Go.Proofs.Tryz.func331, Tryz.ok331, Go.Proofs.Tryz.func332, Tryz.ok332, Go.Proofs.Tryz.func333, Tryz.ok333, Go.Proofs.Tryz.func334, Tryz.ok334, Go.Proofs.Tryz.func335, Tryz.ok335, Go.Proofs.Tryz.func337, Tryz.ok337, Go.Proofs.Tryz.func338, Tryz.ok338, Go.Proofs.Tryz.func339, Tryz.ok339, Go.Proofs.Tryz.func340, Tryz.ok340, Go.Proofs.Tryz.func341, Tryz.ok341, Go.Proofs.Tryz.func342, Tryz.ok342, Go.Proofs.Tryz.func343, Tryz.ok343, Go.Proofs.Tryz.func344, Tryz.ok344, Go.Proofs.Tryz.func345, Tryz.ok345, Go.Proofs.Tryz.func346, Tryz.ok346, Go.Proofs.Tryz.func347, Tryz.ok347, Go.Proofs.Tryz.func348, Tryz.ok348, Go.Proofs.Tryz.func349, Tryz.ok349, Go.Proofs.Tryz.func350, Tryz.ok350, Go.Proofs.Tryz.func351, Tryz.ok351, Go.Proofs.Tryz.func352, Tryz.ok352, Go.Proofs.Tryz.func353, Tryz.ok353, Go.Proofs.Tryz.func354, Tryz.ok354, Go.Proofs.Tryz.func355, Tryz.ok355, Go.Proofs.Tryz.func379, Tryz.ok379, Go.Proofs.Tryz.func384, Tryz.ok384, Go.Proofs.Tryz.func387, Tryz.ok387, Go.Proofs.Tryz.func401, Tryz.ok401, Go.Proofs.Tryz.func403, Tryz.ok403, Go.Proofs.Tryz.func407, Tryz.ok407, Go.Proofs.Tryz.func409, Tryz.ok409, Go.Proofs.Tryz.func411, Tryz.ok411, Go.Proofs.Tryz.func413, Tryz.ok413, Go.Proofs.Tryz.func418, Tryz.ok418, Go.Proofs.Tryz.func420, Tryz.ok420, trivial⟩
end Go.Ab
