/- The seat's program: its types, plans, what lives at loops' heads; the context. Printed by mkseat.py. -/
import Derived.Test.YtmppanboolejjaaAbSeat
import Derived.Test.YtmppanboolejjaaProg
import Derived.KernelRfl
namespace Go.Ab
open Go Go.Proofs
def Try.tab : Tab := [
  (0, ⟨1, false, .other, [], none, 0, false⟩),
  (1, ⟨1, false, .other, [], (some (.nilf)), 8, false⟩),
  (2, ⟨1, false, (.int .i64), [], (some (.int .i64 0)), 8, true⟩),
  (3, ⟨1, false, (.int .i64), [], (some (.int .i64 0)), 8, true⟩),
  (4, ⟨1, false, .bool, [], (some (.bool false)), 1, true⟩),
  (5, ⟨1, false, (.int .u8), [], (some (.int .u8 0)), 1, true⟩),
  (6, ⟨1, false, (.int .u8), [], (some (.int .u8 0)), 1, true⟩),
  (7, ⟨4, true, .struct, [(0, 2), (1, 3), (2, 4), (3, 6)], (some (.agg [.int .i64 0, .int .i64 0, .bool false, .int .u8 0])), 24, true⟩),
  (8, ⟨4, true, .struct, [(0, 2), (1, 3), (2, 4), (3, 6)], (some (.agg [.int .i64 0, .int .i64 0, .bool false, .int .u8 0])), 24, true⟩),
  (9, ⟨1, false, .string, [], (some (.str [])), 16, true⟩),
  (10, ⟨1, false, .string, [], (some (.str [])), 16, true⟩),
  (11, ⟨1, false, .string, [], (some (.str [])), 16, true⟩),
  (12, ⟨1, false, (.int .u64), [], (some (.int .u64 0)), 8, true⟩),
  (13, ⟨2, true, .struct, [(0, 9), (1, 12)], (some (.agg [.str [], .int .u64 0])), 24, false⟩),
  (14, ⟨2, true, .struct, [(0, 9), (1, 12)], (some (.agg [.str [], .int .u64 0])), 24, false⟩),
  (15, ⟨1, false, (.pointer 134), [], (some (.nilp)), 8, true⟩),
  (16, ⟨1, false, (.pointer 137), [], (some (.nilp)), 8, true⟩),
  (17, ⟨1, false, (.pointer 147), [], (some (.nilp)), 8, true⟩),
  (18, ⟨1, true, .struct, [(0, 17)], (some (.agg [.nilp])), 8, false⟩),
  (19, ⟨1, true, .struct, [(0, 17)], (some (.agg [.nilp])), 8, false⟩),
  (20, ⟨1, false, .iface, [], (some (.nili)), 16, true⟩),
  (21, ⟨1, false, (.int .i32), [], (some (.int .i32 0)), 4, true⟩),
  (22, ⟨1, false, (.slice 25), [], (some (.nils)), 24, false⟩),
  (23, ⟨1, false, .other, [], (some (.nilf)), 8, false⟩),
  (24, ⟨1, false, (.slice 28), [], (some (.nils)), 24, false⟩),
  (25, ⟨4, true, (.array 4 5), [(0, 5), (1, 5), (2, 5), (3, 5)], (some (.agg [.int .u8 0, .int .u8 0, .int .u8 0, .int .u8 0])), 4, true⟩),
  (26, ⟨1, false, (.slice 5), [], (some (.nils)), 24, false⟩),
  (27, ⟨4, true, .struct, [(0, 3), (1, 3), (2, 9), (3, 4)], (some (.agg [.int .i64 0, .int .i64 0, .str [], .bool false])), 40, true⟩),
  (28, ⟨4, true, .struct, [(0, 3), (1, 3), (2, 9), (3, 4)], (some (.agg [.int .i64 0, .int .i64 0, .str [], .bool false])), 40, true⟩),
  (29, ⟨1, false, .other, [], none, 0, false⟩),
  (30, ⟨1, false, .other, [], (some (.nilf)), 8, false⟩),
  (31, ⟨1, false, .other, [], none, 0, false⟩),
  (32, ⟨1, false, .other, [], (some (.nilf)), 8, false⟩),
  (33, ⟨1, false, .other, [], (some (.nilf)), 8, false⟩),
  (34, ⟨1, false, .other, [], (some (.nilf)), 8, false⟩),
  (35, ⟨1, false, .other, [], (some (.nilf)), 8, false⟩),
  (36, ⟨1, false, .other, [], (some (.nilf)), 8, false⟩),
  (37, ⟨1, false, .other, [], (some (.nilf)), 8, false⟩),
  (38, ⟨1, false, .other, [], (some (.nilf)), 8, false⟩),
  (39, ⟨1, false, (.slice 49), [], (some (.nils)), 24, false⟩),
  (40, ⟨1, false, (.slice 62), [], (some (.nils)), 24, false⟩),
  (41, ⟨7, true, .struct, [(0, 3), (1, 3), (2, 3), (3, 3), (4, 3), (5, 39), (6, 40)], (some (.agg [.int .i64 0, .int .i64 0, .int .i64 0, .int .i64 0, .int .i64 0, .nils, .nils])), 88, false⟩),
  (42, ⟨7, true, .struct, [(0, 3), (1, 3), (2, 3), (3, 3), (4, 3), (5, 39), (6, 40)], (some (.agg [.int .i64 0, .int .i64 0, .int .i64 0, .int .i64 0, .int .i64 0, .nils, .nils])), 88, false⟩),
  (43, ⟨1, false, .other, [], none, 0, false⟩),
  (44, ⟨1, false, .other, [], (some (.nilf)), 8, false⟩),
  (45, ⟨3, true, .struct, [(0, 3), (1, 3), (2, 3)], (some (.agg [.int .i64 0, .int .i64 0, .int .i64 0])), 24, true⟩),
  (46, ⟨3, true, .struct, [(0, 3), (1, 3), (2, 3)], (some (.agg [.int .i64 0, .int .i64 0, .int .i64 0])), 24, true⟩),
  (47, ⟨1, false, (.slice 82), [], (some (.nils)), 24, false⟩),
  (48, ⟨8, true, .struct, [(0, 3), (1, 46), (4, 4), (5, 47), (6, 9), (7, 9)], (some (.agg [.int .i64 0, .int .i64 0, .int .i64 0, .int .i64 0, .bool false, .nils, .str [], .str []])), 96, false⟩),
  (49, ⟨8, true, .struct, [(0, 3), (1, 46), (4, 4), (5, 47), (6, 9), (7, 9)], (some (.agg [.int .i64 0, .int .i64 0, .int .i64 0, .int .i64 0, .bool false, .nils, .str [], .str []])), 96, false⟩),
  (50, ⟨1, false, (.int .i64), [], (some (.int .i64 0)), 8, true⟩),
  (51, ⟨1, false, .other, [], none, 0, false⟩),
  (52, ⟨1, false, .other, [], (some (.nilf)), 8, false⟩),
  (53, ⟨4, true, .struct, [(0, 3), (1, 3), (2, 40), (3, 39)], (some (.agg [.int .i64 0, .int .i64 0, .nils, .nils])), 64, false⟩),
  (54, ⟨4, true, .struct, [(0, 3), (1, 3), (2, 40), (3, 39)], (some (.agg [.int .i64 0, .int .i64 0, .nils, .nils])), 64, false⟩),
  (55, ⟨1, false, .other, [], none, 0, false⟩),
  (56, ⟨1, false, .other, [], (some (.nilf)), 8, false⟩),
  (57, ⟨4, true, .struct, [(0, 3), (1, 46)], (some (.agg [.int .i64 0, .int .i64 0, .int .i64 0, .int .i64 0])), 32, true⟩),
  (58, ⟨4, true, .struct, [(0, 3), (1, 46)], (some (.agg [.int .i64 0, .int .i64 0, .int .i64 0, .int .i64 0])), 32, true⟩),
  (59, ⟨1, false, (.slice 58), [], (some (.nils)), 24, false⟩),
  (60, ⟨1, false, (.slice 3), [], (some (.nils)), 24, false⟩),
  (61, ⟨5, true, .struct, [(0, 3), (1, 3), (2, 9), (3, 59), (4, 60)], (some (.agg [.int .i64 0, .int .i64 0, .str [], .nils, .nils])), 80, false⟩),
  (62, ⟨5, true, .struct, [(0, 3), (1, 3), (2, 9), (3, 59), (4, 60)], (some (.agg [.int .i64 0, .int .i64 0, .str [], .nils, .nils])), 80, false⟩),
  (63, ⟨1, false, .other, [], (some (.nilf)), 8, false⟩),
  (64, ⟨1, false, .other, [], (some (.nilf)), 8, false⟩),
  (65, ⟨1, false, .other, [], (some (.nilf)), 8, false⟩),
  (66, ⟨1, false, .other, [], (some (.nilf)), 8, false⟩),
  (67, ⟨1, false, .other, [], none, 0, false⟩),
  (68, ⟨1, false, .other, [], (some (.nilf)), 8, false⟩),
  (69, ⟨1, false, (.slice 71), [], (some (.nils)), 24, false⟩),
  (70, ⟨6, true, .struct, [(0, 3), (1, 3), (2, 3), (3, 3), (4, 9), (5, 69)], (some (.agg [.int .i64 0, .int .i64 0, .int .i64 0, .int .i64 0, .str [], .nils])), 72, false⟩),
  (71, ⟨6, true, .struct, [(0, 3), (1, 3), (2, 3), (3, 3), (4, 9), (5, 69)], (some (.agg [.int .i64 0, .int .i64 0, .int .i64 0, .int .i64 0, .str [], .nils])), 72, false⟩),
  (72, ⟨1, false, .other, [], (some (.nilf)), 8, false⟩),
  (73, ⟨1, false, .other, [], (some (.nilf)), 8, false⟩),
  (74, ⟨1, false, .other, [], (some (.nilf)), 8, false⟩),
  (75, ⟨1, false, .other, [], (some (.nilf)), 8, false⟩),
  (76, ⟨1, false, .other, [], (some (.nilf)), 8, false⟩),
  (77, ⟨1, false, .other, [], (some (.nilf)), 8, false⟩),
  (78, ⟨1, false, .other, [], (some (.nilf)), 8, false⟩),
  (79, ⟨1, false, .other, [], (some (.nilf)), 8, false⟩),
  (80, ⟨1, false, .other, [], (some (.nilf)), 8, false⟩),
  (81, ⟨2, true, .struct, [(0, 3), (1, 3)], (some (.agg [.int .i64 0, .int .i64 0])), 16, true⟩),
  (82, ⟨2, true, .struct, [(0, 3), (1, 3)], (some (.agg [.int .i64 0, .int .i64 0])), 16, true⟩),
  (83, ⟨1, false, .other, [], (some (.nilf)), 8, false⟩),
  (84, ⟨1, false, .other, [], (some (.nilf)), 8, false⟩),
  (85, ⟨1, false, .other, [], (some (.nilf)), 8, false⟩),
  (86, ⟨1, false, .other, [], (some (.nilf)), 8, false⟩),
  (87, ⟨1, false, .other, [], (some (.nilf)), 8, false⟩),
  (88, ⟨1, false, .other, [], none, 0, false⟩),
  (89, ⟨1, false, .other, [], (some (.nilf)), 8, false⟩),
  (90, ⟨1, false, .other, [], (some (.nilf)), 8, false⟩),
  (91, ⟨1, false, .other, [], none, 0, false⟩),
  (92, ⟨1, false, .other, [], (some (.nilf)), 8, false⟩),
  (93, ⟨1, false, .other, [], (some (.nilf)), 8, false⟩),
  (94, ⟨1, false, .other, [], (some (.nilf)), 8, false⟩),
  (95, ⟨1, false, .other, [], (some (.nilf)), 8, false⟩),
  (96, ⟨1, false, .other, [], (some (.nilf)), 8, false⟩),
  (97, ⟨1, false, .other, [], (some (.nilf)), 8, false⟩),
  (98, ⟨1, false, .other, [], (some (.nilf)), 8, false⟩),
  (99, ⟨1, false, .other, [], (some (.nilf)), 8, false⟩),
  (100, ⟨1, false, .other, [], (some (.nilf)), 8, false⟩),
  (101, ⟨1, false, .other, [], (some (.nilf)), 8, false⟩),
  (102, ⟨1, false, .other, [], (some (.nilf)), 8, false⟩),
  (103, ⟨1, false, .other, [], (some (.nilf)), 8, false⟩),
  (104, ⟨1, false, (.slice 122), [], (some (.nils)), 24, false⟩),
  (105, ⟨1, false, .other, [], none, 0, false⟩),
  (106, ⟨1, false, .other, [], (some (.nilf)), 8, false⟩),
  (107, ⟨1, false, (.pointer 109), [], (some (.nilp)), 8, true⟩),
  (108, ⟨5, true, .struct, [(0, 104), (1, 3), (2, 3), (3, 4), (4, 3)], (some (.agg [.nils, .int .i64 0, .int .i64 0, .bool false, .int .i64 0])), 56, false⟩),
  (109, ⟨5, true, .struct, [(0, 104), (1, 3), (2, 3), (3, 4), (4, 3)], (some (.agg [.nils, .int .i64 0, .int .i64 0, .bool false, .int .i64 0])), 56, false⟩),
  (110, ⟨1, false, .other, [], (some (.nilf)), 8, false⟩),
  (111, ⟨1, false, .other, [], (some (.nilf)), 8, false⟩),
  (112, ⟨1, false, .other, [], (some (.nilf)), 8, false⟩),
  (113, ⟨1, false, .other, [], none, 0, false⟩),
  (114, ⟨1, false, .other, [], (some (.nilf)), 8, false⟩),
  (115, ⟨1, false, .other, [], (some (.nilf)), 8, false⟩),
  (116, ⟨1, false, .other, [], (some (.nilf)), 8, false⟩),
  (117, ⟨1, false, .other, [], (some (.nilf)), 8, false⟩),
  (118, ⟨1, false, .other, [], (some (.nilf)), 8, false⟩),
  (119, ⟨1, false, .other, [], (some (.nilf)), 8, false⟩),
  (120, ⟨1, false, .other, [], (some (.nilf)), 8, false⟩),
  (121, ⟨4, true, .struct, [(0, 3), (1, 9), (2, 3), (3, 3)], (some (.agg [.int .i64 0, .str [], .int .i64 0, .int .i64 0])), 40, true⟩),
  (122, ⟨4, true, .struct, [(0, 3), (1, 9), (2, 3), (3, 3)], (some (.agg [.int .i64 0, .str [], .int .i64 0, .int .i64 0])), 40, true⟩),
  (123, ⟨1, false, .other, [], none, 0, false⟩),
  (124, ⟨1, false, .other, [], (some (.nilf)), 8, false⟩),
  (125, ⟨1, false, .other, [], (some (.nilf)), 8, false⟩),
  (126, ⟨3, true, (.array 3 3), [(0, 3), (1, 3), (2, 3)], (some (.agg [.int .i64 0, .int .i64 0, .int .i64 0])), 24, true⟩),
  (127, ⟨1, false, (.int .u64), [], (some (.int .u64 0)), 8, true⟩),
  (128, ⟨1, false, .other, [], (some (.nilf)), 8, false⟩),
  (129, ⟨1, false, .other, [], (some (.nilf)), 8, false⟩),
  (130, ⟨1, false, .other, [], (some (.nilf)), 8, false⟩),
  (131, ⟨1, false, .other, [], (some (.nilf)), 8, false⟩),
  (132, ⟨1, false, .other, [], (some (.nilf)), 8, false⟩),
  (133, ⟨4, true, .struct, [(0, 17), (1, 17), (2, 17), (3, 9)], (some (.agg [.nilp, .nilp, .nilp, .str []])), 40, false⟩),
  (134, ⟨4, true, .struct, [(0, 17), (1, 17), (2, 17), (3, 9)], (some (.agg [.nilp, .nilp, .nilp, .str []])), 40, false⟩),
  (135, ⟨0, true, (.array 0 16), [], (some (.agg [])), 0, true⟩),
  (136, ⟨0, true, .struct, [(0, 135)], (some (.agg [])), 0, false⟩),
  (137, ⟨0, true, .struct, [(0, 135)], (some (.agg [])), 0, false⟩),
  (138, ⟨1, false, .other, [], (some (.nilf)), 8, false⟩),
  (139, ⟨1, false, (.int .u32), [], (some (.int .u32 0)), 4, true⟩),
  (140, ⟨1, false, (.int .u8), [], (some (.int .u8 0)), 1, true⟩),
  (141, ⟨1, false, (.int .u8), [], (some (.int .u8 0)), 1, true⟩),
  (142, ⟨1, false, .other, [], (some (.nilf)), 8, false⟩),
  (143, ⟨1, false, (.pointer 5), [], (some (.nilp)), 8, true⟩),
  (144, ⟨1, false, (.int .i32), [], (some (.int .i32 0)), 4, true⟩),
  (145, ⟨1, false, (.int .i32), [], (some (.int .i32 0)), 4, true⟩),
  (146, ⟨11, true, .struct, [(0, 12), (1, 12), (2, 139), (3, 140), (4, 5), (5, 5), (6, 141), (7, 142), (8, 143), (9, 144), (10, 145)], (some (.agg [.int .u64 0, .int .u64 0, .int .u32 0, .int .u8 0, .int .u8 0, .int .u8 0, .int .u8 0, .nilf, .nilp, .int .i32 0, .int .i32 0])), 48, false⟩),
  (147, ⟨11, true, .struct, [(0, 12), (1, 12), (2, 139), (3, 140), (4, 5), (5, 5), (6, 141), (7, 142), (8, 143), (9, 144), (10, 145)], (some (.agg [.int .u64 0, .int .u64 0, .int .u32 0, .int .u8 0, .int .u8 0, .int .u8 0, .int .u8 0, .nilf, .nilp, .int .i32 0, .int .i32 0])), 48, false⟩),
  (148, ⟨1, false, .other, [], (some (.nilp)), 8, true⟩)]
def Try.plans : List (Nat × Nat × Plan) := [
  (3, 11, (.sil 0 (.sil 1 (.sil 2 (.sil 3 (.sil 4 (.sil 5 (.sil 6 (.sil 7 (.sil 8 (.sil 9 (.sil 10 (.sil 11 (.sil 12 (.sil 13 (.sil 14 (.sil 15 (.eff 16 (.sil 17 (.sil 18 (.sil 19 (.sil 20 .stop)))))))))))))))))))))),
  (3, 35, (.sil 0 (.sil 1 (.sil 2 (.sil 3 (.sil 4 (.sil 5 (.sil 6 (.sil 7 (.sil 8 (.sil 9 (.sil 10 (.sil 11 (.sil 13 (.sil 14 (.sil 15 (.sil 16 (.sil 17 (.eff 12 (.eff 18 (.sil 19 (.sil 20 (.sil 21 .stop))))))))))))))))))))))),
  (4, 22, (.sil 0 (.sil 1 (.sil 2 (.sil 3 (.sil 4 (.sil 5 (.sil 6 (.sil 7 (.sil 8 (.sil 9 (.sil 10 (.sil 11 (.sil 12 (.sil 13 (.sil 14 (.sil 15 (.sil 16 (.sil 17 (.sil 18 (.sil 19 (.sil 20 (.sil 21 (.sil 22 (.sil 23 (.sil 24 (.sil 25 (.sil 26 (.sil 27 (.sil 28 (.sil 29 (.sil 30 (.sil 31 (.sil 32 (.sil 33 (.eff 34 (.sil 35 (.sil 36 (.sil 37 (.sil 38 (.sil 39 (.sil 40 (.sil 41 (.eff 42 (.sil 43 (.sil 44 (.sil 45 (.sil 46 (.sil 47 (.sil 48 (.sil 49 (.sil 50 (.sil 51 (.sil 52 (.sil 53 (.sil 54 (.sil 55 (.sil 56 (.sil 57 (.sil 58 (.sil 59 (.sil 60 (.sil 61 (.sil 62 (.sil 63 (.sil 64 (.sil 65 (.sil 66 (.sil 67 (.sil 68 (.sil 69 (.sil 70 (.sil 71 (.sil 72 (.sil 73 (.sil 74 (.sil 75 (.sil 76 (.sil 77 (.sil 78 (.sil 79 (.sil 80 (.sil 81 (.sil 82 (.sil 83 (.sil 84 (.sil 85 (.sil 86 (.sil 87 (.sil 88 (.sil 89 (.sil 90 (.sil 91 (.sil 92 (.sil 93 (.sil 94 (.sil 95 (.sil 96 (.sil 97 (.sil 98 (.sil 99 (.sil 100 (.sil 101 (.sil 102 (.sil 103 (.sil 104 (.sil 105 (.sil 106 (.sil 107 (.sil 108 (.sil 109 (.sil 110 .stop)))))))))))))))))))))))))))))))))))))))))))))))))))))))))))))))))))))))))))))))))))))))))))))))))))))))))))))))),
  (8, 5, (.sil 0 (.sil 1 (.sil 2 (.sil 3 (.sil 5 (.eff 4 (.sil 6 (.eff 7 (.sil 8 .stop)))))))))),
  (12, 7, (.sil 0 (.sil 1 (.sil 2 (.sil 3 (.sil 4 (.sil 5 (.sil 6 .stop)))))))),
  (14, 6, (.sil 0 (.sil 1 (.sil 2 (.sil 3 (.sil 4 (.sil 5 (.sil 6 (.sil 7 (.sil 8 .stop)))))))))),
  (16, 9, (.sil 0 (.sil 2 (.alt (.eff 1 (.eff 3 (.sil 4 (.eff 5 (.sil 6 (.eff 7 .stop)))))) (.eff 3 (.sil 4 (.alt (.eff 1 (.eff 5 (.sil 6 (.eff 7 .stop)))) (.eff 5 (.eff 1 (.sil 6 (.eff 7 .stop))))))))))),
  (17, 9, (.sil 0 (.sil 1 (.eff 2 (.sil 3 (.sil 4 (.sil 5 (.sil 6 (.sil 7 (.sil 9 (.sil 10 (.eff 8 (.sil 11 (.sil 12 .stop)))))))))))))),
  (17, 11, (.sil 0 (.sil 1 (.sil 3 (.eff 2 (.eff 4 (.eff 5 (.sil 6 .stop)))))))),
  (18, 8, (.sil 0 (.sil 1 (.sil 2 (.sil 3 (.sil 4 (.eff 5 (.eff 6 (.sil 7 .stop))))))))),
  (18, 13, (.sil 0 (.sil 1 (.sil 2 (.sil 3 (.sil 4 (.sil 6 (.sil 7 (.sil 8 (.sil 9 (.sil 10 (.sil 11 (.eff 5 (.sil 12 (.eff 13 (.sil 14 .stop)))))))))))))))),
  (21, 5, (.sil 0 (.sil 1 (.sil 2 (.sil 3 (.sil 4 (.sil 5 (.eff 6 (.sil 7 .stop))))))))),
  (22, 7, (.sil 0 (.sil 1 (.sil 2 (.sil 3 (.sil 4 (.sil 5 (.sil 6 (.sil 7 (.sil 8 (.sil 9 (.sil 10 (.sil 11 (.sil 12 (.sil 13 (.sil 14 (.sil 15 (.sil 16 (.sil 17 (.sil 18 (.sil 19 (.sil 20 (.sil 21 (.sil 22 (.sil 23 (.sil 24 (.sil 25 (.sil 26 (.sil 27 (.sil 28 (.sil 29 (.sil 30 (.sil 31 (.sil 32 (.sil 33 .stop))))))))))))))))))))))))))))))))))),
  (25, 11, (.sil 0 (.sil 1 (.sil 2 (.sil 3 (.sil 4 (.eff 5 (.sil 6 (.sil 7 (.sil 8 (.sil 9 (.sil 10 (.sil 11 (.eff 12 (.sil 13 (.sil 14 .stop)))))))))))))))),
  (25, 13, (.sil 0 (.sil 1 (.sil 2 (.sil 3 (.sil 4 (.eff 5 (.sil 6 (.sil 7 (.sil 8 (.sil 9 (.sil 10 (.sil 11 (.eff 12 (.sil 13 (.sil 14 .stop)))))))))))))))),
  (25, 15, (.sil 0 (.sil 1 (.sil 2 (.sil 3 (.sil 4 (.eff 5 (.sil 6 (.sil 7 .stop))))))))),
  (26, 5, (.sil 0 (.sil 1 (.sil 2 (.sil 3 (.sil 4 (.sil 5 (.sil 6 (.sil 7 (.sil 8 (.sil 9 (.sil 10 (.sil 11 (.sil 12 (.sil 13 (.sil 14 (.eff 15 (.sil 16 (.sil 17 .stop))))))))))))))))))),
  (27, 2, (.sil 0 (.sil 1 (.sil 2 (.sil 3 (.sil 4 (.sil 5 (.sil 6 (.eff 7 (.sil 8 (.eff 9 .stop))))))))))),
  (27, 4, (.sil 0 (.sil 1 (.sil 2 (.sil 3 (.sil 4 (.sil 5 (.sil 6 (.sil 8 (.sil 9 (.sil 10 (.eff 7 (.sil 11 (.eff 12 (.sil 13 (.eff 14 .stop)))))))))))))))),
  (30, 1, (.sil 0 (.sil 1 (.sil 2 (.sil 3 (.sil 5 (.sil 6 (.sil 7 (.sil 8 (.sil 10 (.sil 11 (.sil 12 (.sil 13 (.eff 4 (.eff 9 (.eff 14 (.eff 15 (.eff 16 (.sil 17 .stop))))))))))))))))))),
  (38, 9, (.sil 0 (.sil 1 (.sil 2 (.sil 3 (.sil 4 (.eff 5 (.sil 6 (.sil 7 .stop))))))))),
  (42, 9, (.sil 0 (.sil 1 (.sil 2 (.sil 3 (.sil 4 (.sil 5 (.sil 6 (.sil 7 (.sil 8 (.sil 9 (.sil 10 (.sil 11 .stop))))))))))))),
  (42, 11, (.sil 0 (.sil 1 (.sil 2 (.sil 3 (.sil 4 (.sil 5 (.sil 6 (.sil 7 .stop))))))))),
  (43, 1, (.sil 0 (.sil 1 (.sil 2 (.sil 3 (.sil 4 (.eff 5 (.eff 6 (.sil 7 .stop))))))))),
  (43, 8, (.sil 0 (.sil 1 (.sil 2 (.sil 3 (.sil 4 (.sil 5 (.sil 6 (.sil 7 (.sil 8 (.sil 9 (.sil 10 (.sil 11 .stop))))))))))))),
  (43, 10, (.sil 0 (.sil 1 (.sil 2 (.sil 3 (.sil 4 (.sil 5 (.sil 6 (.sil 7 .stop))))))))),
  (51, 6, (.sil 0 (.sil 1 (.sil 2 (.sil 3 (.sil 4 (.sil 5 (.sil 6 (.sil 7 (.sil 8 (.sil 9 (.sil 10 (.sil 11 (.sil 12 (.sil 13 (.sil 14 (.sil 15 (.sil 16 (.sil 17 (.sil 18 (.sil 19 .stop))))))))))))))))))))),
  (51, 7, (.sil 0 (.sil 1 (.sil 2 (.sil 3 (.sil 7 (.sil 8 (.eff 4 (.eff 5 (.eff 6 (.sil 9 (.sil 10 .stop)))))))))))),
  (51, 8, (.sil 0 (.sil 1 (.sil 2 (.sil 3 (.sil 4 (.sil 5 (.sil 6 (.sil 7 (.sil 8 (.sil 9 (.sil 10 (.sil 11 (.sil 12 (.sil 13 (.sil 14 .stop)))))))))))))))),
  (51, 9, (.sil 0 (.sil 1 (.sil 2 (.sil 3 (.sil 7 (.sil 8 (.eff 4 (.eff 5 (.eff 6 (.sil 9 (.sil 10 .stop)))))))))))),
  (51, 3, (.sil 0 (.sil 1 (.sil 2 (.sil 3 (.sil 4 (.sil 5 (.sil 6 .stop)))))))),
  (51, 5, (.sil 0 (.sil 1 (.sil 5 (.sil 6 (.sil 7 (.sil 8 (.eff 2 (.eff 3 (.eff 4 (.sil 9 (.sil 10 (.sil 11 .stop))))))))))))),
  (53, 3, (.sil 0 (.sil 1 (.eff 2 (.eff 3 (.sil 4 (.eff 5 .stop))))))),
  (57, 1, (.sil 0 (.sil 1 (.sil 2 (.sil 3 (.sil 4 (.sil 5 (.sil 6 (.sil 7 (.sil 8 (.sil 9 (.sil 10 (.sil 11 (.sil 12 (.sil 13 (.alt (.eff 14 (.eff 15 (.eff 16 (.eff 17 .stop)))) (.eff 15 (.eff 14 (.eff 16 (.eff 17 .stop)))))))))))))))))))),
  (57, 5, (.sil 0 (.sil 1 (.sil 2 (.sil 3 (.sil 4 (.sil 5 (.sil 6 .stop)))))))),
  (57, 7, (.sil 0 (.sil 1 (.sil 2 (.sil 3 (.sil 4 (.sil 5 (.sil 6 .stop)))))))),
  (62, 4, (.sil 0 (.sil 1 (.sil 2 (.sil 3 (.sil 4 (.sil 5 (.sil 6 (.sil 7 (.sil 8 (.sil 9 (.sil 10 (.sil 11 (.sil 12 (.sil 13 (.eff 14 (.sil 15 (.sil 16 .stop)))))))))))))))))),
  (62, 6, (.sil 0 (.sil 1 (.sil 2 (.sil 3 (.sil 4 (.sil 5 (.sil 6 (.sil 7 (.sil 8 (.sil 9 (.sil 10 (.sil 11 (.sil 12 (.sil 13 (.sil 14 (.eff 15 (.sil 16 (.eff 17 .stop))))))))))))))))))),
  (63, 5, (.sil 0 (.sil 1 (.sil 2 (.sil 3 (.sil 4 (.sil 5 (.sil 6 (.sil 7 (.sil 8 (.eff 9 (.sil 10 .stop)))))))))))),
  (63, 11, (.sil 0 (.sil 1 (.sil 2 (.sil 3 (.sil 4 (.sil 5 (.sil 6 (.sil 7 (.sil 8 (.sil 9 (.sil 10 (.sil 11 (.sil 12 (.sil 13 (.sil 14 (.eff 15 (.sil 16 (.eff 17 .stop))))))))))))))))))),
  (63, 17, (.sil 0 (.sil 1 (.sil 2 (.sil 3 (.sil 4 (.sil 5 (.sil 6 (.sil 7 (.sil 8 (.eff 9 (.sil 10 (.sil 11 .stop))))))))))))),
  (63, 23, (.sil 0 (.sil 1 (.sil 2 (.sil 3 (.sil 4 (.sil 5 (.sil 6 (.sil 7 (.sil 8 (.sil 9 (.sil 10 (.sil 11 (.sil 12 (.sil 13 (.sil 14 (.eff 15 (.sil 16 (.eff 17 .stop))))))))))))))))))),
  (63, 35, (.sil 0 (.sil 1 (.sil 2 (.sil 3 (.sil 4 (.sil 5 (.sil 6 (.sil 7 (.sil 8 (.sil 9 (.sil 10 (.eff 11 (.sil 12 (.sil 13 .stop))))))))))))))),
  (64, 1, (.sil 0 (.sil 1 (.sil 3 (.sil 4 (.eff 2 (.sil 6 (.eff 5 (.eff 7 (.sil 8 (.eff 9 .stop))))))))))),
  (65, 21, (.sil 0 (.sil 1 (.sil 2 (.sil 3 (.sil 4 (.sil 5 .stop))))))),
  (66, 3, (.sil 0 (.sil 1 (.eff 2 (.eff 3 (.sil 4 (.eff 5 .stop))))))),
  (67, 1, (.sil 0 (.sil 1 (.sil 2 (.sil 3 (.sil 4 (.sil 5 (.sil 6 (.sil 7 (.sil 8 (.sil 9 (.sil 10 (.sil 11 (.sil 12 (.sil 13 (.sil 14 (.sil 15 (.sil 16 (.sil 17 (.sil 18 (.sil 19 (.sil 20 (.sil 21 (.sil 22 (.sil 23 (.sil 24 (.sil 25 (.sil 26 (.sil 27 (.sil 28 (.sil 29 (.sil 30 (.sil 31 (.sil 32 (.sil 33 (.sil 34 (.sil 35 (.sil 36 (.sil 37 (.sil 38 (.sil 39 (.sil 40 (.sil 41 (.sil 42 (.sil 43 (.sil 44 .stop)))))))))))))))))))))))))))))))))))))))))))))),
  (73, 11, (.sil 0 (.sil 1 (.sil 2 (.sil 3 (.sil 4 (.sil 5 (.sil 6 (.sil 7 (.sil 8 (.sil 9 (.sil 10 (.sil 11 (.sil 12 (.sil 13 (.sil 14 (.sil 15 (.sil 16 (.sil 17 (.sil 18 (.sil 19 (.sil 20 (.sil 21 (.sil 22 (.sil 23 .stop))))))))))))))))))))))))),
  (73, 15, (.sil 0 (.sil 1 (.sil 2 (.sil 3 (.sil 4 (.sil 5 (.sil 6 (.sil 7 (.sil 8 (.sil 9 (.sil 10 (.sil 11 (.sil 12 (.eff 13 .stop))))))))))))))),
  (74, 3, (.sil 0 (.sil 1 (.sil 2 (.sil 3 (.sil 4 (.sil 5 (.sil 6 (.sil 7 (.sil 8 (.sil 9 (.sil 10 (.sil 11 (.sil 12 (.sil 13 (.sil 14 (.sil 15 (.sil 16 (.sil 17 (.sil 18 (.sil 19 (.sil 20 (.eff 21 (.sil 22 (.eff 23 .stop))))))))))))))))))))))))),
  (76, 3, (.sil 0 (.sil 1 (.sil 2 (.sil 3 (.sil 4 (.sil 5 (.sil 6 (.sil 7 (.sil 8 (.sil 9 (.sil 10 (.sil 11 (.sil 12 (.sil 13 (.sil 14 (.sil 15 (.sil 16 (.sil 17 (.sil 18 (.sil 19 (.sil 20 (.sil 21 (.sil 22 (.sil 23 (.sil 24 (.sil 25 (.sil 26 (.sil 27 (.sil 28 (.sil 29 (.sil 30 (.sil 31 (.sil 32 (.sil 33 (.sil 34 (.sil 35 (.sil 36 (.sil 37 (.sil 38 .stop)))))))))))))))))))))))))))))))))))))))),
  (76, 7, (.sil 0 (.sil 1 (.sil 2 (.sil 3 (.sil 4 (.sil 5 (.sil 6 (.sil 7 (.sil 8 (.sil 9 (.sil 10 (.sil 11 (.sil 12 .stop))))))))))))))]
def Try.lives : List (Nat × Nat × List (Nat × Nat)) := [
  (3, 7, [(0, 1), (3, 1), (4, 6), (5, 0)]),
  (3, 29, [(0, 1), (3, 1), (4, 6), (5, 0), (13, 0)]),
  (3, 33, [(0, 1), (3, 1), (4, 6), (5, 0), (13, 0), (14, 0), (15, 0)]),
  (4, 17, [(1, 0), (2, 0), (3, 1), (5, 1), (6, 0), (8, 0), (9, 1), (10, 0), (11, 1), (12, 0), (13, 1), (14, 0), (16, 0), (17, 1), (18, 0), (19, 1), (20, 0), (21, 0), (24, 0), (25, 6), (26, 0)]),
  (12, 5, [(0, 0), (1, 0), (5, 0), (6, 0)]),
  (14, 4, [(0, 1), (1, 1), (5, 0)]),
  (16, 5, [(0, 0), (1, 0), (6, 0), (8, 0), (9, 0)]),
  (18, 6, [(1, 0), (2, 0), (3, 0), (6, 0), (8, 1), (9, 10), (23, 1), (24, 0), (25, 0)]),
  (22, 4, [(1, 0), (3, 0)]),
  (26, 3, [(2, 0), (3, 0), (4, 0), (7, 0), (8, 0)]),
  (35, 2, [(2, 7), (6, 1), (7, 0), (8, 0)]),
  (37, 2, [(0, 0), (1, 0), (5, 0)]),
  (40, 2, [(1, 0), (2, 0), (6, 0)]),
  (42, 7, [(0, 1), (3, 0), (7, 10), (8, 0), (9, 0)]),
  (43, 6, [(0, 1), (3, 0), (5, 6), (6, 0), (7, 0)]),
  (45, 2, [(0, 1), (1, 0), (7, 0), (8, 0)]),
  (47, 3, [(3, 0), (6, 1), (7, 0), (8, 0)]),
  (50, 2, [(0, 10), (1, 0), (2, 0), (6, 0), (7, 0), (8, 0)]),
  (50, 7, [(0, 10), (1, 0), (2, 0), (6, 0)]),
  (50, 9, [(0, 10), (1, 0), (2, 0), (6, 0), (7, 0), (8, 0)]),
  (51, 1, [(0, 1), (1, 1), (4, 7)]),
  (52, 5, [(0, 0), (5, 6), (6, 0)]),
  (53, 2, [(0, 0), (2, 0), (3, 0)]),
  (55, 3, [(1, 0), (3, 0), (4, 0)]),
  (56, 2, [(0, 1), (1, 0), (4, 0), (6, 0)]),
  (57, 3, [(5, 0), (6, 0), (7, 0)]),
  (58, 2, [(0, 1), (1, 0), (4, 0), (5, 0)]),
  (60, 3, [(0, 1), (1, 0), (2, 0), (8, 0), (9, 0), (10, 0)]),
  (62, 1, [(0, 10), (1, 0), (2, 0), (3, 0), (8, 0)]),
  (62, 4, [(0, 10), (1, 0), (2, 0), (3, 0), (8, 0), (9, 0)]),
  (63, 3, [(0, 10), (1, 0), (4, 0), (10, 0), (11, 0)]),
  (63, 9, [(0, 10), (10, 0), (13, 0)]),
  (63, 15, [(0, 10), (2, 0), (4, 0), (14, 0), (15, 0)]),
  (63, 21, [(0, 10), (14, 0), (17, 0)]),
  (63, 33, [(0, 10), (1, 0), (2, 0), (3, 0), (4, 0), (18, 0), (19, 0), (20, 0), (21, 0), (22, 0)]),
  (65, 3, [(0, 0), (2, 0), (4, 0)]),
  (65, 10, [(0, 0), (2, 0), (4, 0), (5, 0)]),
  (65, 19, [(0, 0), (2, 0), (6, 0), (7, 0)]),
  (66, 2, [(0, 0), (2, 0), (3, 0)]),
  (68, 2, [(0, 10), (2, 0), (4, 0), (10, 0), (11, 0)]),
  (74, 1, [(0, 10), (1, 0), (2, 0), (3, 0), (10, 0)])]
def Try.digs : List (Nat × Nat × List Dig) := [
  (4, 22, [(some 112, [6], []), (some 113, [112], [0]), (some 114, [5, 113], [1]), (some 115, [114, 113], [2, 1]), (some 116, [115, 113], [3, 1]), (some 117, [113, 116], [1, 4]), (some 118, [117], [5, 1]), (some 119, [13, 118], [6]), (some 120, [119, 118], [7, 6]), (some 121, [120, 118], [8, 6]), (some 122, [118, 121], [6, 9]), (some 123, [122], [10, 6]), (some 124, [5, 123], [11]), (some 125, [124, 123], [12, 11]), (some 126, [125, 123], [13, 11]), (some 127, [126, 123], [14, 11]), (some 128, [127, 123], [15, 11]), (some 129, [123, 128], [11, 16]), (some 130, [129], [17, 11]), (some 131, [5, 130], [18]), (some 132, [131, 130], [19, 18]), (some 133, [132, 130], [20, 18]), (some 134, [133, 130], [21, 18]), (some 135, [130, 134], [18, 22]), (some 136, [135], [23, 18]), (some 137, [8, 136], [24]), (some 138, [137, 136], [25, 24]), (some 139, [136, 138], [24, 26]), (some 140, [139], [27, 24]), (some 141, [10, 140], [28]), (some 142, [140, 141], [28, 29]), (some 143, [142], [30, 28]), (some 144, [9, 143], [31]), (some 145, [3, 143], [31]), (some 146, [144, 145, 143], [32, 33, 31, 31]), (some 147, [143, 146], [31, 34]), (some 148, [147], [35, 34]), (some 149, [12, 148], [36]), (some 150, [148, 149], [36, 37]), (some 151, [150], [38, 36]), (some 152, [11, 151], [39]), (some 153, [3, 151], [39]), (some 154, [152, 153, 151], [40, 41, 39, 39]), (some 155, [151, 154], [39, 42]), (some 156, [155], [43, 42]), (some 157, [14, 156], [44]), (some 158, [156, 157], [44, 45]), (some 159, [158], [46, 44]), (some 160, [13, 159], [47]), (some 161, [160, 159], [48, 47]), (some 162, [161, 159], [49, 47]), (some 163, [159, 162], [47, 50]), (some 164, [163], [51, 47]), (some 165, [13, 164], [52]), (some 166, [165, 164], [53, 52]), (some 167, [166, 164], [54, 52]), (some 168, [5, 164], [52]), (some 169, [168, 164], [56, 52]), (some 170, [169, 164], [57, 52]), (some 171, [167, 170, 164], [55, 58, 52]), (some 172, [164, 171], [52, 59]), (some 173, [172], [60, 52]), (some 174, [16, 173], [61]), (some 175, [174, 173], [62, 61]), (some 176, [173, 175], [61, 63]), (some 177, [176], [64, 61]), (some 178, [18, 177], [65]), (some 179, [177, 178], [65, 66]), (some 180, [179], [67, 65]), (some 181, [17, 180], [68]), (some 182, [181, 180], [69, 68]), (some 183, [182, 180], [70, 68]), (some 184, [180, 183], [68, 71]), (some 185, [184], [72, 68]), (some 186, [17, 185], [73]), (some 187, [186, 185], [74, 73]), (some 188, [187, 185], [75, 73]), (some 189, [2, 185], [73]), (some 190, [188, 189, 185], [76, 77, 73]), (some 191, [185, 190], [73, 78]), (some 192, [191], [79, 73]), (some 193, [21, 192], [80]), (some 194, [192, 193], [80, 81]), (some 195, [194], [82, 80]), (some 196, [19, 195], [83]), (some 197, [196, 195], [84, 83]), (some 198, [197, 195], [85, 83]), (some 199, [195, 198], [83, 86]), (some 200, [199], [87, 83]), (some 201, [20, 200], [88]), (some 202, [2, 200], [88]), (some 203, [201, 202, 200], [89, 90, 88]), (some 204, [200, 203], [88, 91]), (some 205, [204], [92, 88]), (some 206, [24, 205], [93]), (some 207, [206, 205], [94, 93]), (some 208, [205, 207], [93, 95]), (some 209, [208], [96, 93]), (some 210, [28, 209], [97]), (some 211, [210, 209], [98, 97]), (some 212, [209, 211], [97, 99]), (some 213, [212], [100, 97]), (some 214, [27, 213], [101]), (some 215, [214, 213], [102, 101]), (some 216, [215, 213], [103, 101]), (some 217, [213, 216], [101, 104]), (some 218, [217], [105, 101]), (some 219, [30, 218], [106]), (some 220, [219, 218], [107, 106]), (some 221, [218, 220], [106, 108]), (some 0, [221], [109, 106, 0, 1, 2, 3, 4, 5, 6, 7, 8, 9, 10, 11, 12, 13, 14, 15, 16, 17, 18, 19, 20, 21, 22, 23, 24, 25, 26, 27, 28, 29, 30, 31, 32, 33, 34, 35, 36, 37, 38, 39, 40, 41, 42, 43, 44, 45, 46, 47, 48, 49, 50, 51, 52, 53, 54, 55, 56, 57, 58, 59, 60, 61, 62, 63, 64, 65, 66, 67, 68, 69, 70, 71, 72, 73, 74, 75, 76, 77, 78, 79, 80, 81, 82, 83, 84, 85, 86, 87, 88, 89, 90, 91, 92, 93, 94, 95, 96, 97, 98, 99, 100, 101, 102, 103, 104, 105, 106, 107, 108, 109])]),
  (22, 7, [(some 58, [4], []), (some 59, [58], [0]), (some 60, [59], [1]), (some 61, [60], [2]), (some 62, [4, 61], [3]), (some 63, [62, 61], [4, 3]), (some 64, [63, 61], [5, 3]), (some 65, [61, 64], [3, 6]), (some 66, [65], [7, 3]), (some 67, [4, 66], [8]), (some 68, [67, 66], [9, 8]), (some 69, [68, 66], [10, 8]), (some 70, [66, 69], [8, 11]), (some 71, [70], [12, 8]), (some 72, [4, 71], [13]), (some 73, [72, 71], [14, 13]), (some 74, [73, 71], [15, 13]), (some 75, [71, 74], [13, 16]), (some 76, [75], [17, 13]), (some 77, [3, 76], [18]), (some 78, [77, 76], [19, 18]), (some 79, [78, 76], [20, 18, 18]), (some 80, [4, 79], [21]), (some 81, [80, 79], [22, 21]), (some 82, [1, 79], [21]), (some 83, [82, 79], [24, 21]), (some 84, [3, 79], [21]), (some 85, [84, 79], [26, 21]), (some 86, [83, 85, 79], [25, 27, 21]), (some 87, [86, 79], [28, 21]), (some 88, [87, 79], [29, 21]), (some 89, [81, 88, 79], [23, 30, 21]), (some 90, [79, 89, 76], [21, 31, 18]), (some 91, [76, 90], [18, 32])]),
  (67, 1, [(some 5, [0], []), (some 6, [5], [0]), (some 7, [6], [1]), (some 8, [7], [2]), (some 9, [8], [3]), (some 10, [0, 9], [4]), (some 11, [10, 9], [5, 4]), (some 12, [11, 9], [6, 4]), (some 13, [12, 9], [7, 4]), (some 14, [0, 9], [4]), (some 15, [14, 9], [9, 4]), (some 16, [15, 9], [10, 4]), (some 17, [16, 9], [11, 4]), (some 18, [17, 9], [12, 4]), (some 19, [13, 18, 9], [8, 13, 4]), (some 20, [9, 19], [4, 14]), (some 21, [20], [15, 4]), (some 22, [0, 21], [16]), (some 23, [22, 21], [17, 16]), (some 24, [23, 21], [18, 16]), (some 25, [24, 21], [19, 16]), (some 26, [0, 21], [16]), (some 27, [26, 21], [21, 16]), (some 28, [27, 21], [22, 16]), (some 29, [28, 21], [23, 16]), (some 30, [25, 29, 21], [20, 24, 16]), (some 31, [30, 21], [25, 16]), (some 32, [31, 21], [26, 16]), (some 33, [32, 21], [27, 16]), (some 34, [21, 33], [16, 28]), (some 35, [34], [29, 16]), (some 36, [0, 35], [30]), (some 37, [36, 35], [31, 30]), (some 38, [37, 35], [32, 30]), (some 39, [38, 35], [33, 30]), (some 40, [0, 35], [30]), (some 41, [40, 35], [35, 30]), (some 42, [41, 35], [36, 30]), (some 43, [42, 35], [37, 30]), (some 44, [39, 43, 35], [34, 38, 30]), (some 45, [44, 35], [39, 30]), (some 46, [45, 35], [40, 30]), (some 47, [1, 35], [30]), (some 48, [46, 47, 35], [41, 42, 30]), (some 49, [35, 48], [30, 43])]),
  (73, 11, [(some 33, [0], []), (some 34, [33], [0]), (some 35, [34], [1]), (some 36, [35], [2]), (some 37, [0], []), (some 38, [37], [4]), (some 39, [38], [5]), (some 40, [39], [6]), (some 41, [40], [7]), (some 42, [36, 41], [3, 8]), (some 43, [42], [9]), (some 44, [0, 43], [10]), (some 45, [44, 43], [11, 10]), (some 46, [45, 43], [12, 10]), (some 47, [46, 43], [13, 10]), (some 48, [0, 43], [10]), (some 49, [48, 43], [15, 10]), (some 50, [49, 43], [16, 10]), (some 51, [50, 43], [17, 10]), (some 52, [47, 51, 43], [14, 18, 10]), (some 53, [52, 43], [19, 10]), (some 54, [53, 43], [20, 10]), (some 55, [54, 43], [21, 10]), (some 56, [43, 55], [10, 22])]),
  (74, 3, [(some 16, [0], []), (some 17, [1], []), (some 18, [10], []), (some 19, [17, 18], [1, 2]), (some 20, [0], []), (some 21, [2], []), (some 22, [10], []), (some 23, [21, 22], [5, 6]), (some 24, [0], []), (some 25, [2], []), (some 26, [10], []), (some 27, [25, 26], [9, 10]), (some 28, [24, 27], [8, 11]), (some 29, [28], [12]), (some 30, [0], []), (some 31, [1], []), (some 32, [10], []), (some 33, [31, 32], [15, 16]), (some 34, [30, 33], [14, 17]), (some 35, [34], [18]), (some 36, [16, 19], [0, 3, 0, 1, 2, 3, 8, 9, 10, 11, 12, 13, 19]), (none, [36, 29], [20, 13, 0, 1, 2, 3, 8, 9, 10, 11, 12, 13, 19]), (some 37, [20, 23], [4, 7, 0, 1, 2, 3, 4, 5, 6, 7, 8, 9, 10, 11, 12, 13, 14, 15, 16, 17, 18, 19, 20, 21]), (none, [37, 35], [22, 19, 21, 0, 1, 2, 3, 4, 5, 6, 7, 8, 9, 10, 11, 12, 13, 14, 15, 16, 17, 18, 19, 20, 21])]),
  (76, 3, [(some 9, [0], []), (some 10, [9], [0]), (some 11, [10], [1]), (some 12, [11], [2]), (some 13, [0], []), (some 14, [13], [4]), (some 15, [14], [5]), (some 16, [15], [6]), (some 17, [16], [7]), (some 18, [12, 17], [3, 8]), (some 19, [18], [9]), (some 20, [0, 19], [10]), (some 21, [20, 19], [11, 10]), (some 22, [21, 19], [12, 10]), (some 23, [22, 19], [13, 10]), (some 24, [0, 19], [10]), (some 25, [24, 19], [15, 10]), (some 26, [25, 19], [16, 10]), (some 27, [26, 19], [17, 10]), (some 28, [23, 27, 19], [14, 18, 10]), (some 29, [28, 19], [19, 10]), (some 30, [29, 19], [20, 10]), (some 31, [30, 19], [21, 10]), (some 32, [19, 31], [10, 22]), (some 33, [32], [23, 10]), (some 34, [0, 33], [24]), (some 35, [34, 33], [25, 24]), (some 36, [35, 33], [26, 24]), (some 37, [36, 33], [27, 24]), (some 38, [0, 33], [24]), (some 39, [38, 33], [29, 24]), (some 40, [39, 33], [30, 24]), (some 41, [40, 33], [31, 24]), (some 42, [37, 41, 33], [28, 32, 24]), (some 43, [42, 33], [33, 24]), (some 44, [43, 33], [34, 24]), (some 45, [1, 33], [24]), (some 46, [44, 45, 33], [35, 36, 24]), (some 47, [33, 46], [24, 37])])]

def Try.nilszs : List (Nat × Nat) := [(19, 4), (32, 2), (69, 4), (70, 1)]
def Try.globs : List (Nat × AV) := []
noncomputable def Try.phi : Phi := fun _ _ => none
def Try.cfg : Cfg := { tab := Try.tab, live := fun f r => look2 [] Try.lives f r, opens := fun f => memN f [21, 33, 50, 53, 54, 62, 63, 66, 67, 68, 73, 74, 75, 76], fresh := fun f => memN f [19, 32, 69, 70], nilsz := fun f => (look1 Try.nilszs f).getD 0, plan := fun f r => look2 .stop Try.plans f r, glob := fun g => look1 Try.globs g }
def Try.X : Ctx := { cfg := Try.cfg, call := SoundCall Go.Proofs.Try.prog Try.phi, meth := IsMeth Go.Proofs.Try.prog, ta := Asserts Go.Proofs.Try.prog }
set_option maxRecDepth 100000
theorem Try.tabOk : tabB Go.Proofs.Try.prog Try.tab Try.tab = true := by kernel_rfl
theorem Try.mixed : Go.Proofs.Try.prog.follows .mixedOrders = true := by kernel_rfl
theorem Try.ok : CtxOk Go.Proofs.Try.prog Try.phi Try.X := ⟨tabB_ok Try.tabOk, fun _ _ _ _ h => h, fun _ _ _ _ h => h, fun _ _ _ h => h, Try.mixed, fun g v h => by cases h⟩
noncomputable def Try.fns : List (Nat × Func) := [(2, Go.Proofs.Try.f2), (3, Go.Proofs.Try.f3), (4, Go.Proofs.Try.f4), (5, Go.Proofs.Try.f5), (6, Go.Proofs.Try.f6), (7, Go.Proofs.Try.f7), (8, Go.Proofs.Try.f8), (9, Go.Proofs.Try.f9), (10, Go.Proofs.Try.f10), (11, Go.Proofs.Try.f11), (12, Go.Proofs.Try.f12), (13, Go.Proofs.Try.f13), (14, Go.Proofs.Try.f14), (15, Go.Proofs.Try.f15), (16, Go.Proofs.Try.f16), (17, Go.Proofs.Try.f17), (18, Go.Proofs.Try.f18), (19, Go.Proofs.Try.f19), (20, Go.Proofs.Try.f20), (21, Go.Proofs.Try.f21), (22, Go.Proofs.Try.f22), (23, Go.Proofs.Try.f23), (24, Go.Proofs.Try.f24), (25, Go.Proofs.Try.f25), (26, Go.Proofs.Try.f26), (27, Go.Proofs.Try.f27), (28, Go.Proofs.Try.f28), (29, Go.Proofs.Try.f29), (30, Go.Proofs.Try.f30), (31, Go.Proofs.Try.f31), (32, Go.Proofs.Try.f32), (33, Go.Proofs.Try.f33), (34, Go.Proofs.Try.f34), (35, Go.Proofs.Try.f35), (36, Go.Proofs.Try.f36), (37, Go.Proofs.Try.f37), (38, Go.Proofs.Try.f38), (39, Go.Proofs.Try.f39), (40, Go.Proofs.Try.f40), (41, Go.Proofs.Try.f41), (42, Go.Proofs.Try.f42), (43, Go.Proofs.Try.f43), (44, Go.Proofs.Try.f44), (45, Go.Proofs.Try.f45), (46, Go.Proofs.Try.f46), (47, Go.Proofs.Try.f47), (48, Go.Proofs.Try.f48), (49, Go.Proofs.Try.f49), (50, Go.Proofs.Try.f50), (51, Go.Proofs.Try.f51), (52, Go.Proofs.Try.f52), (53, Go.Proofs.Try.f53), (54, Go.Proofs.Try.f54), (55, Go.Proofs.Try.f55), (56, Go.Proofs.Try.f56), (57, Go.Proofs.Try.f57), (58, Go.Proofs.Try.f58), (59, Go.Proofs.Try.f59), (60, Go.Proofs.Try.f60), (61, Go.Proofs.Try.f61), (62, Go.Proofs.Try.f62), (63, Go.Proofs.Try.f63), (64, Go.Proofs.Try.f64), (65, Go.Proofs.Try.f65), (66, Go.Proofs.Try.f66), (67, Go.Proofs.Try.f67), (68, Go.Proofs.Try.f68), (69, Go.Proofs.Try.f69), (70, Go.Proofs.Try.f70), (71, Go.Proofs.Try.f71), (72, Go.Proofs.Try.f72), (73, Go.Proofs.Try.f73), (74, Go.Proofs.Try.f74), (75, Go.Proofs.Try.f75), (76, Go.Proofs.Try.f76)]
theorem Try.ok2 : fnB Try.cfg Try.digs 2 Go.Proofs.Try.f2 = true := by kernel_rfl
theorem Try.ok3 : fnB Try.cfg Try.digs 3 Go.Proofs.Try.f3 = true := by kernel_rfl
theorem Try.ok4 : fnB Try.cfg Try.digs 4 Go.Proofs.Try.f4 = true := by kernel_rfl
theorem Try.ok5 : fnB Try.cfg Try.digs 5 Go.Proofs.Try.f5 = true := by kernel_rfl
theorem Try.ok6 : fnB Try.cfg Try.digs 6 Go.Proofs.Try.f6 = true := by kernel_rfl
theorem Try.ok7 : fnB Try.cfg Try.digs 7 Go.Proofs.Try.f7 = true := by kernel_rfl
theorem Try.ok8 : fnB Try.cfg Try.digs 8 Go.Proofs.Try.f8 = true := by kernel_rfl
theorem Try.ok9 : fnB Try.cfg Try.digs 9 Go.Proofs.Try.f9 = true := by kernel_rfl
theorem Try.ok10 : fnB Try.cfg Try.digs 10 Go.Proofs.Try.f10 = true := by kernel_rfl
theorem Try.ok11 : fnB Try.cfg Try.digs 11 Go.Proofs.Try.f11 = true := by kernel_rfl
theorem Try.ok12 : fnB Try.cfg Try.digs 12 Go.Proofs.Try.f12 = true := by kernel_rfl
theorem Try.ok13 : fnB Try.cfg Try.digs 13 Go.Proofs.Try.f13 = true := by kernel_rfl
theorem Try.ok14 : fnB Try.cfg Try.digs 14 Go.Proofs.Try.f14 = true := by kernel_rfl
theorem Try.ok15 : fnB Try.cfg Try.digs 15 Go.Proofs.Try.f15 = true := by kernel_rfl
theorem Try.ok16 : fnB Try.cfg Try.digs 16 Go.Proofs.Try.f16 = true := by kernel_rfl
theorem Try.ok17 : fnB Try.cfg Try.digs 17 Go.Proofs.Try.f17 = true := by kernel_rfl
theorem Try.ok18 : fnB Try.cfg Try.digs 18 Go.Proofs.Try.f18 = true := by kernel_rfl
theorem Try.ok19 : fnB Try.cfg Try.digs 19 Go.Proofs.Try.f19 = true := by kernel_rfl
theorem Try.ok20 : fnB Try.cfg Try.digs 20 Go.Proofs.Try.f20 = true := by kernel_rfl
theorem Try.ok21 : fnB Try.cfg Try.digs 21 Go.Proofs.Try.f21 = true := by kernel_rfl
theorem Try.ok22 : fnB Try.cfg Try.digs 22 Go.Proofs.Try.f22 = true := by kernel_rfl
theorem Try.ok23 : fnB Try.cfg Try.digs 23 Go.Proofs.Try.f23 = true := by kernel_rfl
theorem Try.ok24 : fnB Try.cfg Try.digs 24 Go.Proofs.Try.f24 = true := by kernel_rfl
theorem Try.ok25 : fnB Try.cfg Try.digs 25 Go.Proofs.Try.f25 = true := by kernel_rfl
theorem Try.ok26 : fnB Try.cfg Try.digs 26 Go.Proofs.Try.f26 = true := by kernel_rfl
theorem Try.ok27 : fnB Try.cfg Try.digs 27 Go.Proofs.Try.f27 = true := by kernel_rfl
theorem Try.ok28 : fnB Try.cfg Try.digs 28 Go.Proofs.Try.f28 = true := by kernel_rfl
theorem Try.ok29 : fnB Try.cfg Try.digs 29 Go.Proofs.Try.f29 = true := by kernel_rfl
theorem Try.ok30 : fnB Try.cfg Try.digs 30 Go.Proofs.Try.f30 = true := by kernel_rfl
theorem Try.ok31 : fnB Try.cfg Try.digs 31 Go.Proofs.Try.f31 = true := by kernel_rfl
theorem Try.ok32 : fnB Try.cfg Try.digs 32 Go.Proofs.Try.f32 = true := by kernel_rfl
theorem Try.ok33 : fnB Try.cfg Try.digs 33 Go.Proofs.Try.f33 = true := by kernel_rfl
theorem Try.ok34 : fnB Try.cfg Try.digs 34 Go.Proofs.Try.f34 = true := by kernel_rfl
theorem Try.ok35 : fnB Try.cfg Try.digs 35 Go.Proofs.Try.f35 = true := by kernel_rfl
theorem Try.ok36 : fnB Try.cfg Try.digs 36 Go.Proofs.Try.f36 = true := by kernel_rfl
theorem Try.ok37 : fnB Try.cfg Try.digs 37 Go.Proofs.Try.f37 = true := by kernel_rfl
theorem Try.ok38 : fnB Try.cfg Try.digs 38 Go.Proofs.Try.f38 = true := by kernel_rfl
theorem Try.ok39 : fnB Try.cfg Try.digs 39 Go.Proofs.Try.f39 = true := by kernel_rfl
theorem Try.ok40 : fnB Try.cfg Try.digs 40 Go.Proofs.Try.f40 = true := by kernel_rfl
theorem Try.ok41 : fnB Try.cfg Try.digs 41 Go.Proofs.Try.f41 = true := by kernel_rfl
theorem Try.ok42 : fnB Try.cfg Try.digs 42 Go.Proofs.Try.f42 = true := by kernel_rfl
theorem Try.ok43 : fnB Try.cfg Try.digs 43 Go.Proofs.Try.f43 = true := by kernel_rfl
theorem Try.ok44 : fnB Try.cfg Try.digs 44 Go.Proofs.Try.f44 = true := by kernel_rfl
theorem Try.ok45 : fnB Try.cfg Try.digs 45 Go.Proofs.Try.f45 = true := by kernel_rfl
theorem Try.ok46 : fnB Try.cfg Try.digs 46 Go.Proofs.Try.f46 = true := by kernel_rfl
theorem Try.ok47 : fnB Try.cfg Try.digs 47 Go.Proofs.Try.f47 = true := by kernel_rfl
theorem Try.ok48 : fnB Try.cfg Try.digs 48 Go.Proofs.Try.f48 = true := by kernel_rfl
theorem Try.ok49 : fnB Try.cfg Try.digs 49 Go.Proofs.Try.f49 = true := by kernel_rfl
theorem Try.ok50 : fnB Try.cfg Try.digs 50 Go.Proofs.Try.f50 = true := by kernel_rfl
theorem Try.ok51 : fnB Try.cfg Try.digs 51 Go.Proofs.Try.f51 = true := by kernel_rfl
theorem Try.ok52 : fnB Try.cfg Try.digs 52 Go.Proofs.Try.f52 = true := by kernel_rfl
theorem Try.ok53 : fnB Try.cfg Try.digs 53 Go.Proofs.Try.f53 = true := by kernel_rfl
theorem Try.ok54 : fnB Try.cfg Try.digs 54 Go.Proofs.Try.f54 = true := by kernel_rfl
theorem Try.ok55 : fnB Try.cfg Try.digs 55 Go.Proofs.Try.f55 = true := by kernel_rfl
theorem Try.ok56 : fnB Try.cfg Try.digs 56 Go.Proofs.Try.f56 = true := by kernel_rfl
theorem Try.ok57 : fnB Try.cfg Try.digs 57 Go.Proofs.Try.f57 = true := by kernel_rfl
theorem Try.ok58 : fnB Try.cfg Try.digs 58 Go.Proofs.Try.f58 = true := by kernel_rfl
theorem Try.ok59 : fnB Try.cfg Try.digs 59 Go.Proofs.Try.f59 = true := by kernel_rfl
theorem Try.ok60 : fnB Try.cfg Try.digs 60 Go.Proofs.Try.f60 = true := by kernel_rfl
theorem Try.ok61 : fnB Try.cfg Try.digs 61 Go.Proofs.Try.f61 = true := by kernel_rfl
theorem Try.ok62 : fnB Try.cfg Try.digs 62 Go.Proofs.Try.f62 = true := by kernel_rfl
theorem Try.ok63 : fnB Try.cfg Try.digs 63 Go.Proofs.Try.f63 = true := by kernel_rfl
theorem Try.ok64 : fnB Try.cfg Try.digs 64 Go.Proofs.Try.f64 = true := by kernel_rfl
theorem Try.ok65 : fnB Try.cfg Try.digs 65 Go.Proofs.Try.f65 = true := by kernel_rfl
theorem Try.ok66 : fnB Try.cfg Try.digs 66 Go.Proofs.Try.f66 = true := by kernel_rfl
theorem Try.ok67 : fnB Try.cfg Try.digs 67 Go.Proofs.Try.f67 = true := by kernel_rfl
theorem Try.ok68 : fnB Try.cfg Try.digs 68 Go.Proofs.Try.f68 = true := by kernel_rfl
theorem Try.ok69 : fnB Try.cfg Try.digs 69 Go.Proofs.Try.f69 = true := by kernel_rfl
theorem Try.ok70 : fnB Try.cfg Try.digs 70 Go.Proofs.Try.f70 = true := by kernel_rfl
theorem Try.ok71 : fnB Try.cfg Try.digs 71 Go.Proofs.Try.f71 = true := by kernel_rfl
theorem Try.ok72 : fnB Try.cfg Try.digs 72 Go.Proofs.Try.f72 = true := by kernel_rfl
theorem Try.ok73 : fnB Try.cfg Try.digs 73 Go.Proofs.Try.f73 = true := by kernel_rfl
theorem Try.ok74 : fnB Try.cfg Try.digs 74 Go.Proofs.Try.f74 = true := by kernel_rfl
theorem Try.ok75 : fnB Try.cfg Try.digs 75 Go.Proofs.Try.f75 = true := by kernel_rfl
theorem Try.ok76 : fnB Try.cfg Try.digs 76 Go.Proofs.Try.f76 = true := by kernel_rfl
theorem Try.fnsOk : FnsOk Go.Proofs.Try.prog Try.cfg Try.digs Try.fns := ⟨Go.Proofs.Try.func2, Try.ok2, Go.Proofs.Try.func3, Try.ok3, Go.Proofs.Try.func4, Try.ok4, Go.Proofs.Try.func5, Try.ok5, Go.Proofs.Try.func6, Try.ok6, Go.Proofs.Try.func7, Try.ok7, Go.Proofs.Try.func8, Try.ok8, Go.Proofs.Try.func9, Try.ok9, Go.Proofs.Try.func10, Try.ok10, Go.Proofs.Try.func11, Try.ok11, Go.Proofs.Try.func12, Try.ok12, Go.Proofs.Try.func13, Try.ok13, Go.Proofs.Try.func14, Try.ok14, Go.Proofs.Try.func15, Try.ok15, Go.Proofs.Try.func16, Try.ok16, Go.Proofs.Try.func17, Try.ok17, Go.Proofs.Try.func18, Try.ok18, Go.Proofs.Try.func19, Try.ok19, Go.Proofs.Try.func20, Try.ok20, Go.Proofs.Try.func21, Try.ok21, Go.Proofs.Try.func22, Try.ok22, Go.Proofs.Try.func23, Try.ok23, Go.Proofs.Try.func24, Try.ok24, Go.Proofs.Try.func25, Try.ok25, Go.Proofs.Try.func26, Try.ok26, Go.Proofs.Try.func27, Try.ok27, Go.Proofs.Try.func28, Try.ok28, Go.Proofs.Try.func29, Try.ok29, Go.Proofs.Try.func30, Try.ok30, Go.Proofs.Try.func31, Try.ok31, Go.Proofs.Try.func32, Try.ok32, Go.Proofs.Try.func33, Try.ok33, Go.Proofs.Try.func34, Try.ok34, Go.Proofs.Try.func35, Try.ok35, Go.Proofs.Try.func36, Try.ok36, Go.Proofs.Try.func37, Try.ok37, Go.Proofs.Try.func38, Try.ok38, Go.Proofs.Try.func39, Try.ok39, Go.Proofs.Try.func40, Try.ok40, Go.Proofs.Try.func41, Try.ok41, Go.Proofs.Try.func42, Try.ok42, Go.Proofs.Try.func43, Try.ok43, Go.Proofs.Try.func44, Try.ok44, Go.Proofs.Try.func45, Try.ok45, Go.Proofs.Try.func46, Try.ok46, Go.Proofs.Try.func47, Try.ok47, Go.Proofs.Try.func48, Try.ok48, Go.Proofs.Try.func49, Try.ok49, Go.Proofs.Try.func50, Try.ok50, Go.Proofs.Try.func51, Try.ok51, Go.Proofs.Try.func52, Try.ok52, Go.Proofs.Try.func53, Try.ok53, Go.Proofs.Try.func54, Try.ok54, Go.Proofs.Try.func55, Try.ok55, Go.Proofs.Try.func56, Try.ok56, Go.Proofs.Try.func57, Try.ok57, Go.Proofs.Try.func58, Try.ok58, Go.Proofs.Try.func59, Try.ok59, Go.Proofs.Try.func60, Try.ok60, Go.Proofs.Try.func61, Try.ok61, Go.Proofs.Try.func62, Try.ok62, Go.Proofs.Try.func63, Try.ok63, Go.Proofs.Try.func64, Try.ok64, Go.Proofs.Try.func65, Try.ok65, Go.Proofs.Try.func66, Try.ok66, Go.Proofs.Try.func67, Try.ok67, Go.Proofs.Try.func68, Try.ok68, Go.Proofs.Try.func69, Try.ok69, Go.Proofs.Try.func70, Try.ok70, Go.Proofs.Try.func71, Try.ok71, Go.Proofs.Try.func72, Try.ok72, Go.Proofs.Try.func73, Try.ok73, Go.Proofs.Try.func74, Try.ok74, Go.Proofs.Try.func75, Try.ok75, Go.Proofs.Try.func76, Try.ok76, trivial⟩
end Go.Ab
