/- The seat's program: its types, plans, what lives at loops' heads; the context. Printed by mkseat.py. -/
import Derived.Test.YtodelhgblkhjgaaGreatDoorG3
import Derived.Test.YtodelhgblkhjgaaGreatDoorProg
import Derived.KernelRfl
namespace Go.Ab
open Go Go.Proofs
def Tryz.tab : Tab := [
  (0, ⟨1, false, .other, [], none, 0, false⟩),
  (1, ⟨1, false, .other, [], (some (.nilf)), 8, false⟩),
  (2, ⟨1, false, (.int .i64), [], (some (.int .i64 0)), 8, true⟩),
  (3, ⟨1, false, (.int .i64), [], (some (.int .i64 0)), 8, true⟩),
  (4, ⟨1, false, .bool, [], (some (.bool false)), 1, true⟩),
  (5, ⟨1, false, (.int .u8), [], (some (.int .u8 0)), 1, true⟩),
  (6, ⟨1, false, (.int .u8), [], (some (.int .u8 0)), 1, true⟩),
  (7, ⟨4, true, .struct, [(0, 2), (1, 3), (2, 4), (3, 6)], (some (.agg [.int .i64 0, .int .i64 0, .bool false, .int .u8 0])), 24, true⟩),
  (8, ⟨4, true, .struct, [(0, 2), (1, 3), (2, 4), (3, 6)], (some (.agg [.int .i64 0, .int .i64 0, .bool false, .int .u8 0])), 24, true⟩),
  (9, ⟨1, false, .string, [], (some (.str [])), 16, true⟩),
  (10, ⟨1, false, .string, [], (some (.str [])), 16, true⟩),
  (11, ⟨1, false, .string, [], (some (.str [])), 16, true⟩),
  (12, ⟨1, false, (.int .u64), [], (some (.int .u64 0)), 8, true⟩),
  (13, ⟨2, true, .struct, [(0, 9), (1, 12)], (some (.agg [.str [], .int .u64 0])), 24, false⟩),
  (14, ⟨2, true, .struct, [(0, 9), (1, 12)], (some (.agg [.str [], .int .u64 0])), 24, false⟩),
  (15, ⟨1, false, (.pointer 153), [], (some (.nilp)), 8, true⟩),
  (16, ⟨1, false, (.pointer 156), [], (some (.nilp)), 8, true⟩),
  (17, ⟨1, false, (.pointer 165), [], (some (.nilp)), 8, true⟩),
  (18, ⟨1, true, .struct, [(0, 17)], (some (.agg [.nilp])), 8, false⟩),
  (19, ⟨1, true, .struct, [(0, 17)], (some (.agg [.nilp])), 8, false⟩),
  (20, ⟨1, false, .iface, [], (some (.nili)), 16, true⟩),
  (21, ⟨1, false, (.int .i32), [], (some (.int .i32 0)), 4, true⟩),
  (22, ⟨3, true, .struct, [(0, 3), (1, 3), (2, 3)], (some (.agg [.int .i64 0, .int .i64 0, .int .i64 0])), 24, true⟩),
  (23, ⟨3, true, .struct, [(0, 3), (1, 3), (2, 3)], (some (.agg [.int .i64 0, .int .i64 0, .int .i64 0])), 24, true⟩),
  (24, ⟨1, false, (.slice 59), [], (some (.nils)), 24, false⟩),
  (25, ⟨8, true, .struct, [(0, 3), (1, 23), (4, 4), (5, 24), (6, 9), (7, 9)], (some (.agg [.int .i64 0, .int .i64 0, .int .i64 0, .int .i64 0, .bool false, .nils, .str [], .str []])), 96, false⟩),
  (26, ⟨8, true, .struct, [(0, 3), (1, 23), (4, 4), (5, 24), (6, 9), (7, 9)], (some (.agg [.int .i64 0, .int .i64 0, .int .i64 0, .int .i64 0, .bool false, .nils, .str [], .str []])), 96, false⟩),
  (27, ⟨1, false, (.slice 5), [], (some (.nils)), 24, false⟩),
  (28, ⟨1, false, .other, [], (some (.nilf)), 8, false⟩),
  (29, ⟨1, false, .other, [], (some (.nilf)), 8, false⟩),
  (30, ⟨1, false, (.pointer 39), [], (some (.nilp)), 8, true⟩),
  (31, ⟨1, false, .other, [], (some (.nilf)), 8, false⟩),
  (32, ⟨1, false, .other, [], (some (.nilf)), 8, false⟩),
  (33, ⟨1, false, .other, [], none, 0, false⟩),
  (34, ⟨1, false, .other, [], (some (.nilf)), 8, false⟩),
  (35, ⟨1, false, .other, [], (some (.nilf)), 8, false⟩),
  (36, ⟨1, false, .other, [], (some (.nilf)), 8, false⟩),
  (37, ⟨1, false, .other, [], (some (.nilf)), 8, false⟩),
  (38, ⟨2, true, .struct, [(0, 27), (1, 3)], (some (.agg [.nils, .int .i64 0])), 32, false⟩),
  (39, ⟨2, true, .struct, [(0, 27), (1, 3)], (some (.agg [.nils, .int .i64 0])), 32, false⟩),
  (40, ⟨1, false, .other, [], (some (.nilf)), 8, false⟩),
  (41, ⟨1, false, .other, [], (some (.nilf)), 8, false⟩),
  (42, ⟨1, false, .other, [], (some (.nilf)), 8, false⟩),
  (43, ⟨1, false, .other, [], (some (.nilf)), 8, false⟩),
  (44, ⟨1, false, (.slice 9), [], (some (.nils)), 24, false⟩),
  (45, ⟨1, false, (.pointer 49), [], (some (.nilp)), 8, true⟩),
  (46, ⟨1, false, .iface, [], (some (.nili)), 16, true⟩),
  (47, ⟨1, false, .iface, [], (some (.nili)), 16, true⟩),
  (48, ⟨3, true, .struct, [(0, 27), (1, 3), (2, 47)], (some (.agg [.nils, .int .i64 0, .nili])), 48, false⟩),
  (49, ⟨3, true, .struct, [(0, 27), (1, 3), (2, 47)], (some (.agg [.nils, .int .i64 0, .nili])), 48, false⟩),
  (50, ⟨1, true, .struct, [(0, 9)], (some (.agg [.str []])), 16, true⟩),
  (51, ⟨1, true, .struct, [(0, 9)], (some (.agg [.str []])), 16, true⟩),
  (52, ⟨1, false, .other, [], (some (.nilf)), 8, false⟩),
  (53, ⟨1, false, (.pointer 51), [], (some (.nilp)), 8, true⟩),
  (54, ⟨1, false, (.pointer 56), [], (some (.nilp)), 8, true⟩),
  (55, ⟨2, true, .struct, [(0, 27), (1, 4)], (some (.agg [.nils, .bool false])), 32, false⟩),
  (56, ⟨2, true, .struct, [(0, 27), (1, 4)], (some (.agg [.nils, .bool false])), 32, false⟩),
  (57, ⟨1, false, .other, [], (some (.nilf)), 8, false⟩),
  (58, ⟨2, true, .struct, [(0, 3), (1, 3)], (some (.agg [.int .i64 0, .int .i64 0])), 16, true⟩),
  (59, ⟨2, true, .struct, [(0, 3), (1, 3)], (some (.agg [.int .i64 0, .int .i64 0])), 16, true⟩),
  (60, ⟨1, false, (.slice 3), [], (some (.nils)), 24, false⟩),
  (61, ⟨1, false, .other, [], (some (.nilf)), 8, false⟩),
  (62, ⟨1, false, .other, [], (some (.nilf)), 8, false⟩),
  (63, ⟨1, false, .other, [], (some (.nilf)), 8, false⟩),
  (64, ⟨1, false, .other, [], (some (.nilf)), 8, false⟩),
  (65, ⟨1, false, .other, [], (some (.nilf)), 8, false⟩),
  (66, ⟨1, true, .struct, [(0, 47)], (some (.agg [.nili])), 16, false⟩),
  (67, ⟨1, true, .struct, [(0, 47)], (some (.agg [.nili])), 16, false⟩),
  (68, ⟨1, false, .other, [], (some (.nilp)), 8, true⟩),
  (69, ⟨1, false, (.int .u64), [], (some (.int .u64 0)), 8, true⟩),
  (70, ⟨3, true, .struct, [(0, 17), (1, 68), (2, 69)], (some (.agg [.nilp, .nilp, .int .u64 0])), 24, false⟩),
  (71, ⟨3, true, .struct, [(0, 17), (1, 68), (2, 69)], (some (.agg [.nilp, .nilp, .int .u64 0])), 24, false⟩),
  (72, ⟨1, false, .other, [], (some (.nilf)), 8, false⟩),
  (73, ⟨1, false, .iface, [], (some (.nili)), 16, true⟩),
  (74, ⟨1, false, .iface, [], (some (.nili)), 16, true⟩),
  (75, ⟨1, false, .other, [], (some (.nilf)), 8, false⟩),
  (76, ⟨1, false, (.int .u8), [], (some (.int .u8 0)), 1, true⟩),
  (77, ⟨1, false, .other, [], (some (.nilf)), 8, false⟩),
  (78, ⟨1, false, .other, [], (some (.nilf)), 8, false⟩),
  (79, ⟨1, false, .other, [], (some (.nilf)), 8, false⟩),
  (80, ⟨1, false, .other, [], none, 0, false⟩),
  (81, ⟨1, false, .other, [], (some (.nilf)), 8, false⟩),
  (82, ⟨1, false, .other, [], none, 0, false⟩),
  (83, ⟨1, false, .other, [], (some (.nilf)), 8, false⟩),
  (84, ⟨1, false, .other, [], (some (.nilf)), 8, false⟩),
  (85, ⟨1, false, .other, [], (some (.nilf)), 8, false⟩),
  (86, ⟨1, false, (.pointer 106), [], (some (.nilp)), 8, true⟩),
  (87, ⟨1, false, .other, [], (some (.nilf)), 8, false⟩),
  (88, ⟨1, false, (.pointer 86), [], (some (.nilp)), 8, true⟩),
  (89, ⟨1, false, .other, [], (some (.nilf)), 8, false⟩),
  (90, ⟨1, false, (.int .u64), [], (some (.int .u64 0)), 8, true⟩),
  (91, ⟨1, true, .struct, [(0, 17)], (some (.agg [.nilp])), 8, false⟩),
  (92, ⟨1, true, .struct, [(0, 17)], (some (.agg [.nilp])), 8, false⟩),
  (93, ⟨1, false, (.pointer 169), [], (some (.nilp)), 8, true⟩),
  (94, ⟨1, false, .other, [], (some (.nilf)), 8, false⟩),
  (95, ⟨1, false, .other, [], (some (.nilf)), 8, false⟩),
  (96, ⟨1, false, .other, [], (some (.nilf)), 8, false⟩),
  (97, ⟨1, false, .iface, [], (some (.nili)), 16, true⟩),
  (98, ⟨1, false, .other, [], none, 0, false⟩),
  (99, ⟨1, false, .other, [], (some (.nilf)), 8, false⟩),
  (100, ⟨1, false, .iface, [], (some (.nili)), 16, true⟩),
  (101, ⟨1, false, .other, [], (some (.nilf)), 8, false⟩),
  (102, ⟨1, false, .iface, [], (some (.nili)), 16, true⟩),
  (103, ⟨1, false, (.slice 47), [], (some (.nils)), 24, false⟩),
  (104, ⟨1, false, .other, [], (some (.nilf)), 8, false⟩),
  (105, ⟨1, true, .struct, [(0, 9)], (some (.agg [.str []])), 16, true⟩),
  (106, ⟨1, true, .struct, [(0, 9)], (some (.agg [.str []])), 16, true⟩),
  (107, ⟨1, true, .struct, [(0, 47)], (some (.agg [.nili])), 16, false⟩),
  (108, ⟨1, true, .struct, [(0, 47)], (some (.agg [.nili])), 16, false⟩),
  (109, ⟨1, false, .other, [], (some (.nilf)), 8, false⟩),
  (110, ⟨1, false, .other, [], (some (.nilf)), 8, false⟩),
  (111, ⟨1, false, .other, [], none, 0, false⟩),
  (112, ⟨1, false, .other, [], (some (.nilf)), 8, false⟩),
  (113, ⟨1, false, .other, [], (some (.nilf)), 8, false⟩),
  (114, ⟨0, true, .struct, [], (some (.agg [])), 0, true⟩),
  (115, ⟨0, true, .struct, [], (some (.agg [])), 0, true⟩),
  (116, ⟨0, true, .struct, [], (some (.agg [])), 0, true⟩),
  (117, ⟨1, false, .other, [], (some (.nilf)), 8, false⟩),
  (118, ⟨0, true, .struct, [], (some (.agg [])), 0, true⟩),
  (119, ⟨1, false, .other, [], (some (.nilf)), 8, false⟩),
  (120, ⟨1, true, .struct, [(0, 47)], (some (.agg [.nili])), 16, false⟩),
  (121, ⟨1, true, .struct, [(0, 47)], (some (.agg [.nili])), 16, false⟩),
  (122, ⟨1, false, .other, [], (some (.nilf)), 8, false⟩),
  (123, ⟨1, false, .other, [], (some (.nilf)), 8, false⟩),
  (124, ⟨1, false, .other, [], (some (.nilf)), 8, false⟩),
  (125, ⟨1, false, .other, [], (some (.nilf)), 8, false⟩),
  (126, ⟨256, true, (.array 256 4), [], (some (.agg [.bool false, .bool false, .bool false, .bool false, .bool false, .bool false, .bool false, .bool false, .bool false, .bool false, .bool false, .bool false, .bool false, .bool false, .bool false, .bool false, .bool false, .bool false, .bool false, .bool false, .bool false, .bool false, .bool false, .bool false, .bool false, .bool false, .bool false, .bool false, .bool false, .bool false, .bool false, .bool false, .bool false, .bool false, .bool false, .bool false, .bool false, .bool false, .bool false, .bool false, .bool false, .bool false, .bool false, .bool false, .bool false, .bool false, .bool false, .bool false, .bool false, .bool false, .bool false, .bool false, .bool false, .bool false, .bool false, .bool false, .bool false, .bool false, .bool false, .bool false, .bool false, .bool false, .bool false, .bool false, .bool false, .bool false, .bool false, .bool false, .bool false, .bool false, .bool false, .bool false, .bool false, .bool false, .bool false, .bool false, .bool false, .bool false, .bool false, .bool false, .bool false, .bool false, .bool false, .bool false, .bool false, .bool false, .bool false, .bool false, .bool false, .bool false, .bool false, .bool false, .bool false, .bool false, .bool false, .bool false, .bool false, .bool false, .bool false, .bool false, .bool false, .bool false, .bool false, .bool false, .bool false, .bool false, .bool false, .bool false, .bool false, .bool false, .bool false, .bool false, .bool false, .bool false, .bool false, .bool false, .bool false, .bool false, .bool false, .bool false, .bool false, .bool false, .bool false, .bool false, .bool false, .bool false, .bool false, .bool false, .bool false, .bool false, .bool false, .bool false, .bool false, .bool false, .bool false, .bool false, .bool false, .bool false, .bool false, .bool false, .bool false, .bool false, .bool false, .bool false, .bool false, .bool false, .bool false, .bool false, .bool false, .bool false, .bool false, .bool false, .bool false, .bool false, .bool false, .bool false, .bool false, .bool false, .bool false, .bool false, .bool false, .bool false, .bool false, .bool false, .bool false, .bool false, .bool false, .bool false, .bool false, .bool false, .bool false, .bool false, .bool false, .bool false, .bool false, .bool false, .bool false, .bool false, .bool false, .bool false, .bool false, .bool false, .bool false, .bool false, .bool false, .bool false, .bool false, .bool false, .bool false, .bool false, .bool false, .bool false, .bool false, .bool false, .bool false, .bool false, .bool false, .bool false, .bool false, .bool false, .bool false, .bool false, .bool false, .bool false, .bool false, .bool false, .bool false, .bool false, .bool false, .bool false, .bool false, .bool false, .bool false, .bool false, .bool false, .bool false, .bool false, .bool false, .bool false, .bool false, .bool false, .bool false, .bool false, .bool false, .bool false, .bool false, .bool false, .bool false, .bool false, .bool false, .bool false, .bool false, .bool false, .bool false, .bool false, .bool false, .bool false, .bool false, .bool false, .bool false, .bool false, .bool false, .bool false, .bool false, .bool false, .bool false, .bool false, .bool false, .bool false, .bool false, .bool false, .bool false, .bool false, .bool false, .bool false, .bool false])), 256, true⟩),
  (127, ⟨256, true, (.array 256 4), [], (some (.agg [.bool false, .bool false, .bool false, .bool false, .bool false, .bool false, .bool false, .bool false, .bool false, .bool false, .bool false, .bool false, .bool false, .bool false, .bool false, .bool false, .bool false, .bool false, .bool false, .bool false, .bool false, .bool false, .bool false, .bool false, .bool false, .bool false, .bool false, .bool false, .bool false, .bool false, .bool false, .bool false, .bool false, .bool false, .bool false, .bool false, .bool false, .bool false, .bool false, .bool false, .bool false, .bool false, .bool false, .bool false, .bool false, .bool false, .bool false, .bool false, .bool false, .bool false, .bool false, .bool false, .bool false, .bool false, .bool false, .bool false, .bool false, .bool false, .bool false, .bool false, .bool false, .bool false, .bool false, .bool false, .bool false, .bool false, .bool false, .bool false, .bool false, .bool false, .bool false, .bool false, .bool false, .bool false, .bool false, .bool false, .bool false, .bool false, .bool false, .bool false, .bool false, .bool false, .bool false, .bool false, .bool false, .bool false, .bool false, .bool false, .bool false, .bool false, .bool false, .bool false, .bool false, .bool false, .bool false, .bool false, .bool false, .bool false, .bool false, .bool false, .bool false, .bool false, .bool false, .bool false, .bool false, .bool false, .bool false, .bool false, .bool false, .bool false, .bool false, .bool false, .bool false, .bool false, .bool false, .bool false, .bool false, .bool false, .bool false, .bool false, .bool false, .bool false, .bool false, .bool false, .bool false, .bool false, .bool false, .bool false, .bool false, .bool false, .bool false, .bool false, .bool false, .bool false, .bool false, .bool false, .bool false, .bool false, .bool false, .bool false, .bool false, .bool false, .bool false, .bool false, .bool false, .bool false, .bool false, .bool false, .bool false, .bool false, .bool false, .bool false, .bool false, .bool false, .bool false, .bool false, .bool false, .bool false, .bool false, .bool false, .bool false, .bool false, .bool false, .bool false, .bool false, .bool false, .bool false, .bool false, .bool false, .bool false, .bool false, .bool false, .bool false, .bool false, .bool false, .bool false, .bool false, .bool false, .bool false, .bool false, .bool false, .bool false, .bool false, .bool false, .bool false, .bool false, .bool false, .bool false, .bool false, .bool false, .bool false, .bool false, .bool false, .bool false, .bool false, .bool false, .bool false, .bool false, .bool false, .bool false, .bool false, .bool false, .bool false, .bool false, .bool false, .bool false, .bool false, .bool false, .bool false, .bool false, .bool false, .bool false, .bool false, .bool false, .bool false, .bool false, .bool false, .bool false, .bool false, .bool false, .bool false, .bool false, .bool false, .bool false, .bool false, .bool false, .bool false, .bool false, .bool false, .bool false, .bool false, .bool false, .bool false, .bool false, .bool false, .bool false, .bool false, .bool false, .bool false, .bool false, .bool false, .bool false, .bool false, .bool false, .bool false, .bool false, .bool false, .bool false, .bool false, .bool false, .bool false, .bool false, .bool false, .bool false, .bool false, .bool false])), 256, true⟩),
  (128, ⟨1, false, .other, [], none, 0, false⟩),
  (129, ⟨1, false, .other, [], (some (.nilf)), 8, false⟩),
  (130, ⟨1, false, .other, [], (some (.nilf)), 8, false⟩),
  (131, ⟨1, false, (.pointer 127), [], (some (.nilp)), 8, true⟩),
  (132, ⟨1, false, .iface, [], (some (.nili)), 16, true⟩),
  (133, ⟨1, false, .other, [], none, 0, false⟩),
  (134, ⟨1, false, .other, [], (some (.nilf)), 8, false⟩),
  (135, ⟨1, false, (.pointer 137), [], (some (.nilp)), 8, true⟩),
  (136, ⟨1, true, .struct, [(0, 103)], (some (.agg [.nils])), 24, false⟩),
  (137, ⟨1, true, .struct, [(0, 103)], (some (.agg [.nils])), 24, false⟩),
  (138, ⟨2, true, .struct, [(0, 9), (1, 47)], (some (.agg [.str [], .nili])), 32, false⟩),
  (139, ⟨2, true, .struct, [(0, 9), (1, 47)], (some (.agg [.str [], .nili])), 32, false⟩),
  (140, ⟨1, false, .other, [], (some (.nilf)), 8, false⟩),
  (141, ⟨1, false, .other, [], none, 0, false⟩),
  (142, ⟨1, false, .other, [], (some (.nilf)), 8, false⟩),
  (143, ⟨1, false, .other, [], (some (.nilf)), 8, false⟩),
  (144, ⟨1, false, .other, [], (some (.nilf)), 8, false⟩),
  (145, ⟨256, true, (.array 256 5), [], (some (.agg [.int .u8 0, .int .u8 0, .int .u8 0, .int .u8 0, .int .u8 0, .int .u8 0, .int .u8 0, .int .u8 0, .int .u8 0, .int .u8 0, .int .u8 0, .int .u8 0, .int .u8 0, .int .u8 0, .int .u8 0, .int .u8 0, .int .u8 0, .int .u8 0, .int .u8 0, .int .u8 0, .int .u8 0, .int .u8 0, .int .u8 0, .int .u8 0, .int .u8 0, .int .u8 0, .int .u8 0, .int .u8 0, .int .u8 0, .int .u8 0, .int .u8 0, .int .u8 0, .int .u8 0, .int .u8 0, .int .u8 0, .int .u8 0, .int .u8 0, .int .u8 0, .int .u8 0, .int .u8 0, .int .u8 0, .int .u8 0, .int .u8 0, .int .u8 0, .int .u8 0, .int .u8 0, .int .u8 0, .int .u8 0, .int .u8 0, .int .u8 0, .int .u8 0, .int .u8 0, .int .u8 0, .int .u8 0, .int .u8 0, .int .u8 0, .int .u8 0, .int .u8 0, .int .u8 0, .int .u8 0, .int .u8 0, .int .u8 0, .int .u8 0, .int .u8 0, .int .u8 0, .int .u8 0, .int .u8 0, .int .u8 0, .int .u8 0, .int .u8 0, .int .u8 0, .int .u8 0, .int .u8 0, .int .u8 0, .int .u8 0, .int .u8 0, .int .u8 0, .int .u8 0, .int .u8 0, .int .u8 0, .int .u8 0, .int .u8 0, .int .u8 0, .int .u8 0, .int .u8 0, .int .u8 0, .int .u8 0, .int .u8 0, .int .u8 0, .int .u8 0, .int .u8 0, .int .u8 0, .int .u8 0, .int .u8 0, .int .u8 0, .int .u8 0, .int .u8 0, .int .u8 0, .int .u8 0, .int .u8 0, .int .u8 0, .int .u8 0, .int .u8 0, .int .u8 0, .int .u8 0, .int .u8 0, .int .u8 0, .int .u8 0, .int .u8 0, .int .u8 0, .int .u8 0, .int .u8 0, .int .u8 0, .int .u8 0, .int .u8 0, .int .u8 0, .int .u8 0, .int .u8 0, .int .u8 0, .int .u8 0, .int .u8 0, .int .u8 0, .int .u8 0, .int .u8 0, .int .u8 0, .int .u8 0, .int .u8 0, .int .u8 0, .int .u8 0, .int .u8 0, .int .u8 0, .int .u8 0, .int .u8 0, .int .u8 0, .int .u8 0, .int .u8 0, .int .u8 0, .int .u8 0, .int .u8 0, .int .u8 0, .int .u8 0, .int .u8 0, .int .u8 0, .int .u8 0, .int .u8 0, .int .u8 0, .int .u8 0, .int .u8 0, .int .u8 0, .int .u8 0, .int .u8 0, .int .u8 0, .int .u8 0, .int .u8 0, .int .u8 0, .int .u8 0, .int .u8 0, .int .u8 0, .int .u8 0, .int .u8 0, .int .u8 0, .int .u8 0, .int .u8 0, .int .u8 0, .int .u8 0, .int .u8 0, .int .u8 0, .int .u8 0, .int .u8 0, .int .u8 0, .int .u8 0, .int .u8 0, .int .u8 0, .int .u8 0, .int .u8 0, .int .u8 0, .int .u8 0, .int .u8 0, .int .u8 0, .int .u8 0, .int .u8 0, .int .u8 0, .int .u8 0, .int .u8 0, .int .u8 0, .int .u8 0, .int .u8 0, .int .u8 0, .int .u8 0, .int .u8 0, .int .u8 0, .int .u8 0, .int .u8 0, .int .u8 0, .int .u8 0, .int .u8 0, .int .u8 0, .int .u8 0, .int .u8 0, .int .u8 0, .int .u8 0, .int .u8 0, .int .u8 0, .int .u8 0, .int .u8 0, .int .u8 0, .int .u8 0, .int .u8 0, .int .u8 0, .int .u8 0, .int .u8 0, .int .u8 0, .int .u8 0, .int .u8 0, .int .u8 0, .int .u8 0, .int .u8 0, .int .u8 0, .int .u8 0, .int .u8 0, .int .u8 0, .int .u8 0, .int .u8 0, .int .u8 0, .int .u8 0, .int .u8 0, .int .u8 0, .int .u8 0, .int .u8 0, .int .u8 0, .int .u8 0, .int .u8 0, .int .u8 0, .int .u8 0, .int .u8 0, .int .u8 0, .int .u8 0, .int .u8 0, .int .u8 0, .int .u8 0, .int .u8 0, .int .u8 0, .int .u8 0, .int .u8 0, .int .u8 0, .int .u8 0, .int .u8 0, .int .u8 0, .int .u8 0, .int .u8 0, .int .u8 0, .int .u8 0, .int .u8 0, .int .u8 0, .int .u8 0, .int .u8 0])), 256, true⟩),
  (146, ⟨2, true, .struct, [(0, 5), (1, 5)], (some (.agg [.int .u8 0, .int .u8 0])), 2, true⟩),
  (147, ⟨2, true, .struct, [(0, 5), (1, 5)], (some (.agg [.int .u8 0, .int .u8 0])), 2, true⟩),
  (148, ⟨32, true, (.array 16 147), [(0, 147), (2, 147), (4, 147), (6, 147), (8, 147), (10, 147), (12, 147), (14, 147), (16, 147), (18, 147), (20, 147), (22, 147), (24, 147), (26, 147), (28, 147), (30, 147)], (some (.agg [.int .u8 0, .int .u8 0, .int .u8 0, .int .u8 0, .int .u8 0, .int .u8 0, .int .u8 0, .int .u8 0, .int .u8 0, .int .u8 0, .int .u8 0, .int .u8 0, .int .u8 0, .int .u8 0, .int .u8 0, .int .u8 0, .int .u8 0, .int .u8 0, .int .u8 0, .int .u8 0, .int .u8 0, .int .u8 0, .int .u8 0, .int .u8 0, .int .u8 0, .int .u8 0, .int .u8 0, .int .u8 0, .int .u8 0, .int .u8 0, .int .u8 0, .int .u8 0])), 32, true⟩),
  (149, ⟨1, false, .other, [], (some (.nilf)), 8, false⟩),
  (150, ⟨1, false, .other, [], (some (.nilf)), 8, false⟩),
  (151, ⟨1, false, .other, [], (some (.nilf)), 8, false⟩),
  (152, ⟨4, true, .struct, [(0, 17), (1, 17), (2, 17), (3, 9)], (some (.agg [.nilp, .nilp, .nilp, .str []])), 40, false⟩),
  (153, ⟨4, true, .struct, [(0, 17), (1, 17), (2, 17), (3, 9)], (some (.agg [.nilp, .nilp, .nilp, .str []])), 40, false⟩),
  (154, ⟨0, true, (.array 0 16), [], (some (.agg [])), 0, true⟩),
  (155, ⟨0, true, .struct, [(0, 154)], (some (.agg [])), 0, false⟩),
  (156, ⟨0, true, .struct, [(0, 154)], (some (.agg [])), 0, false⟩),
  (157, ⟨1, false, .other, [], (some (.nilf)), 8, false⟩),
  (158, ⟨1, false, (.int .u32), [], (some (.int .u32 0)), 4, true⟩),
  (159, ⟨1, false, (.int .u8), [], (some (.int .u8 0)), 1, true⟩),
  (160, ⟨1, false, .other, [], (some (.nilf)), 8, false⟩),
  (161, ⟨1, false, (.pointer 5), [], (some (.nilp)), 8, true⟩),
  (162, ⟨1, false, (.int .i32), [], (some (.int .i32 0)), 4, true⟩),
  (163, ⟨1, false, (.int .i32), [], (some (.int .i32 0)), 4, true⟩),
  (164, ⟨11, true, .struct, [(0, 12), (1, 12), (2, 158), (3, 159), (4, 5), (5, 5), (6, 76), (7, 160), (8, 161), (9, 162), (10, 163)], (some (.agg [.int .u64 0, .int .u64 0, .int .u32 0, .int .u8 0, .int .u8 0, .int .u8 0, .int .u8 0, .nilf, .nilp, .int .i32 0, .int .i32 0])), 48, false⟩),
  (165, ⟨11, true, .struct, [(0, 12), (1, 12), (2, 158), (3, 159), (4, 5), (5, 5), (6, 76), (7, 160), (8, 161), (9, 162), (10, 163)], (some (.agg [.int .u64 0, .int .u64 0, .int .u32 0, .int .u8 0, .int .u8 0, .int .u8 0, .int .u8 0, .nilf, .nilp, .int .i32 0, .int .i32 0])), 48, false⟩),
  (166, ⟨1, false, .other, [], (some (.nilf)), 8, false⟩),
  (167, ⟨1, false, .other, [], (some (.nilf)), 8, false⟩),
  (168, ⟨2, true, .struct, [(0, 9), (1, 76)], (some (.agg [.str [], .int .u8 0])), 24, false⟩),
  (169, ⟨2, true, .struct, [(0, 9), (1, 76)], (some (.agg [.str [], .int .u8 0])), 24, false⟩),
  (170, ⟨1, false, (.pointer 174), [], (some (.nilp)), 8, true⟩),
  (171, ⟨1, false, .other, [], (some (.nilf)), 8, false⟩),
  (172, ⟨1, false, (.int .u16), [], (some (.int .u16 0)), 2, true⟩),
  (173, ⟨5, true, .struct, [(0, 162), (1, 172), (2, 172), (3, 158), (4, 158)], (some (.agg [.int .i32 0, .int .u16 0, .int .u16 0, .int .u32 0, .int .u32 0])), 16, false⟩),
  (174, ⟨5, true, .struct, [(0, 162), (1, 172), (2, 172), (3, 158), (4, 158)], (some (.agg [.int .i32 0, .int .u16 0, .int .u16 0, .int .u32 0, .int .u32 0])), 16, false⟩),
  (175, ⟨1, false, (.slice 178), [], (some (.nils)), 24, false⟩),
  (176, ⟨1, false, (.int .i32), [], (some (.int .i32 0)), 4, true⟩),
  (177, ⟨4, true, .struct, [(0, 162), (1, 163), (2, 176), (3, 176)], (some (.agg [.int .i32 0, .int .i32 0, .int .i32 0, .int .i32 0])), 16, false⟩),
  (178, ⟨4, true, .struct, [(0, 162), (1, 163), (2, 176), (3, 176)], (some (.agg [.int .i32 0, .int .i32 0, .int .i32 0, .int .i32 0])), 16, false⟩),
  (179, ⟨1, false, (.pointer 47), [], (some (.nilp)), 8, true⟩)]
def Tryz.plans : List (Nat × Nat × Plan) := [
  (3, 8, (.sil 0 (.sil 3 (.eff 1 (.sil 2 (.eff 4 (.sil 5 (.sil 6 (.sil 7 (.sil 9 (.sil 13 (.alt (.eff 8 (.alt (.eff 10 (.sil 11 (.eff 12 (.eff 14 (.sil 15 (.sil 16 (.sil 17 (.sil 18 (.sil 19 (.sil 20 (.sil 21 (.sil 22 (.sil 23 (.sil 24 (.sil 25 (.sil 26 (.sil 27 (.sil 28 (.sil 29 (.sil 30 (.eff 31 (.sil 32 (.sil 33 .stop))))))))))))))))))))))) (.eff 12 (.eff 10 (.sil 11 (.eff 14 (.sil 15 (.sil 16 (.sil 17 (.sil 18 (.sil 19 (.sil 20 (.sil 21 (.sil 22 (.sil 23 (.sil 24 (.sil 25 (.sil 26 (.sil 27 (.sil 28 (.sil 29 (.sil 30 (.eff 31 (.sil 32 (.sil 33 .stop))))))))))))))))))))))))) (.eff 12 (.eff 8 (.eff 10 (.sil 11 (.eff 14 (.sil 15 (.sil 16 (.sil 17 (.sil 18 (.sil 19 (.sil 20 (.sil 21 (.sil 22 (.sil 23 (.sil 24 (.sil 25 (.sil 26 (.sil 27 (.sil 28 (.sil 29 (.sil 30 (.eff 31 (.sil 32 (.sil 33 .stop)))))))))))))))))))))))))))))))))))),
  (8, 4, (.sil 0 (.sil 1 (.sil 2 (.sil 3 (.sil 4 (.eff 5 (.sil 6 (.sil 7 (.sil 10 (.sil 11 (.sil 12 (.sil 13 (.sil 14 (.sil 15 (.sil 16 (.eff 8 (.sil 9 (.sil 17 (.sil 18 .stop)))))))))))))))))))),
  (8, 6, (.sil 0 (.sil 1 (.sil 2 (.sil 3 (.sil 4 (.eff 5 (.sil 6 (.sil 7 .stop))))))))),
  (9, 18, (.sil 0 (.sil 3 (.sil 4 (.sil 5 (.sil 6 (.eff 1 (.sil 2 (.sil 7 .stop))))))))),
  (10, 18, (.sil 0 (.sil 1 (.sil 2 (.sil 4 (.sil 5 (.eff 3 (.eff 6 (.sil 7 .stop))))))))),
  (11, 3, (.sil 0 (.sil 1 (.sil 2 (.sil 4 (.sil 5 (.sil 6 (.sil 8 (.sil 9 (.sil 10 (.sil 12 (.sil 13 (.sil 14 (.eff 3 (.eff 7 (.eff 11 (.eff 15 (.sil 16 .stop)))))))))))))))))),
  (11, 4, (.sil 0 (.sil 1 (.sil 2 (.sil 5 (.sil 6 (.sil 7 (.eff 3 (.eff 4 (.eff 8 (.sil 9 .stop))))))))))),
  (11, 8, (.sil 0 (.sil 1 (.sil 2 (.sil 3 (.sil 4 (.sil 5 (.sil 6 (.sil 8 (.sil 9 (.sil 10 (.sil 11 (.sil 12 (.sil 13 (.eff 7 (.eff 14 (.sil 15 .stop))))))))))))))))),
  (11, 9, (.sil 0 (.sil 1 (.sil 2 (.sil 4 (.sil 5 (.eff 3 (.eff 6 (.sil 7 .stop))))))))),
  (12, 6, (.sil 0 (.sil 1 (.sil 2 (.sil 3 (.sil 4 (.sil 5 (.sil 6 (.sil 7 (.sil 8 (.sil 9 (.sil 10 .stop)))))))))))),
  (13, 1, (.sil 0 (.sil 1 (.sil 2 (.sil 3 (.sil 4 (.sil 5 (.sil 6 (.sil 7 (.sil 8 (.sil 9 (.sil 10 (.sil 11 (.sil 12 (.sil 13 .stop))))))))))))))),
  (13, 4, (.sil 0 (.sil 1 (.sil 2 (.sil 3 (.sil 4 (.sil 5 (.sil 6 (.sil 7 (.sil 8 (.sil 9 (.sil 10 (.sil 11 (.sil 12 (.sil 13 (.sil 14 .stop)))))))))))))))),
  (17, 8, (.sil 0 (.sil 1 (.sil 2 (.sil 4 (.eff 3 (.eff 5 (.sil 6 (.eff 7 (.eff 8 (.sil 9 (.eff 10 .stop)))))))))))),
  (21, 7, (.sil 0 (.sil 1 (.sil 2 (.sil 3 (.sil 4 (.sil 5 (.sil 6 (.sil 7 (.sil 8 (.sil 9 (.sil 10 (.sil 11 (.sil 12 (.sil 13 (.sil 14 (.sil 15 (.sil 16 (.sil 17 (.sil 18 (.sil 19 (.sil 20 (.sil 21 (.sil 22 (.sil 23 (.sil 24 (.sil 25 (.sil 26 (.sil 27 (.sil 28 (.sil 29 (.sil 30 (.sil 31 (.sil 32 (.sil 33 .stop))))))))))))))))))))))))))))))))))),
  (28, 3, (.sil 0 (.sil 1 (.sil 2 (.sil 3 (.sil 4 (.sil 5 (.sil 6 (.sil 7 (.sil 8 (.eff 9 (.sil 10 (.sil 11 (.sil 12 (.sil 13 (.sil 14 (.sil 15 (.sil 16 .stop)))))))))))))))))),
  (29, 3, (.sil 0 (.sil 1 (.sil 2 (.sil 3 (.sil 4 (.sil 5 (.sil 6 (.sil 7 (.sil 8 (.eff 9 (.sil 10 (.sil 11 (.sil 12 (.sil 13 (.sil 14 (.sil 15 (.sil 16 .stop)))))))))))))))))),
  (50, 1, (.sil 0 (.sil 1 (.sil 3 (.sil 4 (.sil 6 (.sil 7 (.sil 8 (.sil 9 (.sil 10 (.eff 2 (.eff 5 (.eff 11 (.eff 12 (.eff 13 (.sil 14 .stop)))))))))))))))),
  (51, 4, (.sil 0 (.sil 1 (.sil 2 (.sil 4 (.sil 5 (.eff 3 (.eff 6 (.sil 7 .stop))))))))),
  (67, 6, (.sil 0 (.sil 1 (.sil 2 (.sil 3 (.sil 4 (.sil 5 (.sil 6 .stop)))))))),
  (67, 7, (.sil 0 (.sil 1 (.sil 2 (.sil 3 (.sil 4 (.sil 5 (.sil 6 (.eff 7 (.sil 8 .stop)))))))))),
  (67, 14, (.sil 0 (.sil 1 (.sil 2 (.sil 3 (.sil 4 (.sil 5 (.sil 6 (.sil 7 (.sil 8 (.sil 9 (.sil 10 .stop)))))))))))),
  (67, 31, (.sil 0 (.sil 1 (.sil 2 (.sil 3 (.sil 4 (.sil 5 (.sil 6 (.sil 7 (.sil 8 (.sil 9 (.sil 10 .stop))))))))))))]
def Tryz.lives : List (Nat × Nat × List (Nat × Nat)) := [
  (9, 8, [(0, 1), (2, 0), (5, 0), (6, 0), (7, 0)]),
  (10, 9, [(0, 1), (3, 0), (6, 3), (37, 1), (38, 0), (39, 0)]),
  (10, 14, [(0, 1), (3, 0), (51, 3), (52, 0), (53, 0)]),
  (11, 6, [(0, 1), (3, 0), (5, 0)]),
  (12, 4, [(2, 0), (3, 0), (5, 0)]),
  (15, 3, [(0, 0), (3, 4), (4, 0)]),
  (17, 6, [(0, 1000), (2, 162000), (3, 0), (4, 0)]),
  (21, 4, [(1, 0), (3, 0)]),
  (23, 3, [(0, 3), (5, 0)]),
  (25, 2, [(1, 0), (5, 3)]),
  (33, 1, [(0, 0), (1, 0), (3, 0), (6, 0)]),
  (33, 18, [(1, 0), (3, 0), (6, 0), (48, 3), (49, 0), (50, 0)]),
  (34, 3, [(0, 1), (5, 0), (6, 0), (7, 0)]),
  (37, 2, [(0, 0), (1, 0), (5, 0)]),
  (46, 3, [(0, 1), (3, 0), (6, 1), (7, 0), (8, 0)]),
  (48, 1, [(0, 1), (2, 0), (3, 0)]),
  (52, 1, [(0, 0), (1, 0), (2, 0)]),
  (52, 17, [(1, 0), (2, 0), (43, 1), (44, 0), (45, 0)]),
  (53, 3, [(0, 1), (3, 0), (9, 1), (10, 0), (11, 0)]),
  (53, 12, [(6, 0), (26, 1), (27, 0), (28, 0)]),
  (55, 1, [(0, 0), (1, 0)]),
  (56, 1, [(0, 0), (1, 0)]),
  (57, 2, [(0, 0), (2, 0), (4, 0)]),
  (58, 1, [(0, 0), (1, 0)]),
  (59, 1, [(0, 0), (1, 0)]),
  (60, 1, [(0, 0), (1, 0)]),
  (61, 1, [(0, 0), (1, 0)]),
  (65, 10, [(0, 0), (4, 0), (5, 0), (6, 0)]),
  (67, 38, [(175, 0)])]
def Tryz.digs : List (Nat × Nat × List Dig) := [
  (3, 8, [(some 44, [7], []), (some 45, [44], [0]), (some 46, [45], [1]), (some 47, [7], []), (some 48, [47], [3, 1]), (some 49, [48], [4]), (some 50, [46, 49], [2, 5]), (some 51, [50], [6, 4]), (some 52, [51], [7]), (some 53, [3, 51], [7]), (some 54, [52, 53, 51], [8, 9, 7, 7]), (some 55, [54, 51], [10, 7]), (some 56, [51], [7]), (some 57, [3, 51], [7]), (some 58, [56, 57, 51], [12, 13, 10, 7]), (some 59, [58, 51], [14, 7]), (some 60, [55, 59, 51], [11, 15, 7]), (some 61, [51, 60], [7, 16]), (some 62, [61], [17, 14]), (some 63, [9, 62], [18]), (some 64, [12, 62], [18]), (some 65, [63, 64, 62], [19, 20, 18]), (some 66, [62, 65], [18, 21]), (some 67, [66], [22, 18]), (some 68, [10, 67], [23]), (some 69, [13, 67], [23]), (some 70, [68, 69, 67], [24, 25, 23]), (some 71, [67, 70], [23, 26]), (some 72, [71], [27, 23]), (some 73, [8, 72], [28]), (some 74, [11, 72], [28]), (some 75, [73, 74, 72], [29, 30, 28, 28]), (some 76, [72, 75], [28, 31]), (some 6, [76], [32, 31, 0, 1, 2, 3, 4, 5, 6, 7, 8, 9, 10, 11, 12, 13, 14, 15, 16, 17, 18, 19, 20, 21, 22, 23, 24, 25, 26, 27, 28, 29, 30, 31, 32])]),
  (21, 7, [(some 58, [4], []), (some 59, [58], [0]), (some 60, [59], [1]), (some 61, [60], [2]), (some 62, [4, 61], [3]), (some 63, [62, 61], [4, 3]), (some 64, [63, 61], [5, 3]), (some 65, [61, 64], [3, 6]), (some 66, [65], [7, 3]), (some 67, [4, 66], [8]), (some 68, [67, 66], [9, 8]), (some 69, [68, 66], [10, 8]), (some 70, [66, 69], [8, 11]), (some 71, [70], [12, 8]), (some 72, [4, 71], [13]), (some 73, [72, 71], [14, 13]), (some 74, [73, 71], [15, 13]), (some 75, [71, 74], [13, 16]), (some 76, [75], [17, 13]), (some 77, [3, 76], [18]), (some 78, [77, 76], [19, 18]), (some 79, [78, 76], [20, 18, 18]), (some 80, [4, 79], [21]), (some 81, [80, 79], [22, 21]), (some 82, [1, 79], [21]), (some 83, [82, 79], [24, 21]), (some 84, [3, 79], [21]), (some 85, [84, 79], [26, 21]), (some 86, [83, 85, 79], [25, 27, 21]), (some 87, [86, 79], [28, 21]), (some 88, [87, 79], [29, 21]), (some 89, [81, 88, 79], [23, 30, 21]), (some 90, [79, 89, 76], [21, 31, 18]), (some 91, [76, 90], [18, 32])])]

def Tryz.nilszs : List (Nat × Nat) := [(6, 0), (11, 1), (23, 1), (24, 1), (25, 1), (27, 1), (39, 1)]
def Tryz.globs : List (Nat × AV) := [(0, .iface 92 (.agg [.raw (.pointer (some ⟨4, 47, none⟩))]))]
noncomputable def Tryz.phi : Phi := phi1 0 (.iface 92 (.agg #[.pointer (some ⟨4, 47, none⟩)]))
def Tryz.cfg : Cfg := { tab := Tryz.tab, live := fun f r => look2 [] Tryz.lives f r, opens := fun f => memN f [7, 13, 14, 15, 16, 17, 18, 19, 20, 28, 29, 30, 31, 32, 33, 43, 44, 97], fresh := fun f => memN f [6, 11, 23, 24, 25, 27, 39], nilsz := fun f => (look1 Tryz.nilszs f).getD 0, plan := fun f r => look2 .stop Tryz.plans f r, glob := fun g => look1 Tryz.globs g }
def Tryz.X : Ctx := { cfg := Tryz.cfg, call := SoundCall Go.Proofs.Tryz.prog Tryz.phi, meth := IsMeth Go.Proofs.Tryz.prog, ta := Asserts Go.Proofs.Tryz.prog }
set_option maxRecDepth 100000
theorem Tryz.tabOk : tabB Go.Proofs.Tryz.prog Tryz.tab Tryz.tab = true := by kernel_rfl
theorem Tryz.mixed : Go.Proofs.Tryz.prog.follows .mixedOrders = true := by kernel_rfl
theorem Tryz.ok : CtxOk Go.Proofs.Tryz.prog Tryz.phi Tryz.X := ⟨tabB_ok Tryz.tabOk, fun _ _ _ _ h => h, fun _ _ _ _ h => h, fun _ _ _ h => h, Tryz.mixed, fun _ _ h => look1_one (Q := fun g v => R (phi1 0 (.iface 92 (.agg #[.pointer (some ⟨4, 47, none⟩)]))) m0 (.cptr v) (.pointer (some ⟨g, 0, none⟩))) (glob_hand (g := 0)) h⟩
noncomputable def Tryz.fns : List (Nat × Func) := [(2, Go.Proofs.Tryz.f2), (3, Go.Proofs.Tryz.f3), (4, Go.Proofs.Tryz.f4), (5, Go.Proofs.Tryz.f5), (6, Go.Proofs.Tryz.f6), (7, Go.Proofs.Tryz.f7), (8, Go.Proofs.Tryz.f8), (9, Go.Proofs.Tryz.f9), (10, Go.Proofs.Tryz.f10), (11, Go.Proofs.Tryz.f11), (12, Go.Proofs.Tryz.f12), (13, Go.Proofs.Tryz.f13), (14, Go.Proofs.Tryz.f14), (15, Go.Proofs.Tryz.f15), (16, Go.Proofs.Tryz.f16), (17, Go.Proofs.Tryz.f17), (18, Go.Proofs.Tryz.f18), (19, Go.Proofs.Tryz.f19), (20, Go.Proofs.Tryz.f20), (21, Go.Proofs.Tryz.f21), (22, Go.Proofs.Tryz.f22), (23, Go.Proofs.Tryz.f23), (24, Go.Proofs.Tryz.f24), (25, Go.Proofs.Tryz.f25), (26, Go.Proofs.Tryz.f26), (27, Go.Proofs.Tryz.f27), (28, Go.Proofs.Tryz.f28), (29, Go.Proofs.Tryz.f29), (33, Go.Proofs.Tryz.f33), (34, Go.Proofs.Tryz.f34), (35, Go.Proofs.Tryz.f35), (36, Go.Proofs.Tryz.f36), (37, Go.Proofs.Tryz.f37), (38, Go.Proofs.Tryz.f38), (39, Go.Proofs.Tryz.f39), (40, Go.Proofs.Tryz.f40), (41, Go.Proofs.Tryz.f41), (45, Go.Proofs.Tryz.f45), (46, Go.Proofs.Tryz.f46), (47, Go.Proofs.Tryz.f47), (48, Go.Proofs.Tryz.f48), (49, Go.Proofs.Tryz.f49), (50, Go.Proofs.Tryz.f50), (51, Go.Proofs.Tryz.f51), (52, Go.Proofs.Tryz.f52), (53, Go.Proofs.Tryz.f53), (54, Go.Proofs.Tryz.f54), (55, Go.Proofs.Tryz.f55), (56, Go.Proofs.Tryz.f56), (57, Go.Proofs.Tryz.f57), (58, Go.Proofs.Tryz.f58), (59, Go.Proofs.Tryz.f59), (60, Go.Proofs.Tryz.f60), (61, Go.Proofs.Tryz.f61), (62, Go.Proofs.Tryz.f62), (63, Go.Proofs.Tryz.f63), (64, Go.Proofs.Tryz.f64), (65, Go.Proofs.Tryz.f65), (66, Go.Proofs.Tryz.f66), (67, Go.Proofs.Tryz.f67), (68, Go.Proofs.Tryz.f68), (69, Go.Proofs.Tryz.f69), (70, Go.Proofs.Tryz.f70), (71, Go.Proofs.Tryz.f71), (73, Go.Proofs.Tryz.f73), (95, Go.Proofs.Tryz.f95), (112, Go.Proofs.Tryz.f112), (117, Go.Proofs.Tryz.f117), (119, Go.Proofs.Tryz.f119), (121, Go.Proofs.Tryz.f121), (128, Go.Proofs.Tryz.f128)]
theorem Tryz.ok2 : fnB Tryz.cfg Tryz.digs 2 Go.Proofs.Tryz.f2 = true := by kernel_rfl
theorem Tryz.ok3 : fnB Tryz.cfg Tryz.digs 3 Go.Proofs.Tryz.f3 = true := by kernel_rfl
theorem Tryz.ok4 : fnB Tryz.cfg Tryz.digs 4 Go.Proofs.Tryz.f4 = true := by kernel_rfl
theorem Tryz.ok5 : fnB Tryz.cfg Tryz.digs 5 Go.Proofs.Tryz.f5 = true := by kernel_rfl
theorem Tryz.ok6 : fnB Tryz.cfg Tryz.digs 6 Go.Proofs.Tryz.f6 = true := by kernel_rfl
theorem Tryz.ok7 : fnB Tryz.cfg Tryz.digs 7 Go.Proofs.Tryz.f7 = true := by kernel_rfl
theorem Tryz.ok8 : fnB Tryz.cfg Tryz.digs 8 Go.Proofs.Tryz.f8 = true := by kernel_rfl
theorem Tryz.ok9 : fnB Tryz.cfg Tryz.digs 9 Go.Proofs.Tryz.f9 = true := by kernel_rfl
theorem Tryz.ok10 : fnB Tryz.cfg Tryz.digs 10 Go.Proofs.Tryz.f10 = true := by kernel_rfl
theorem Tryz.ok11 : fnB Tryz.cfg Tryz.digs 11 Go.Proofs.Tryz.f11 = true := by kernel_rfl
theorem Tryz.ok12 : fnB Tryz.cfg Tryz.digs 12 Go.Proofs.Tryz.f12 = true := by kernel_rfl
theorem Tryz.ok13 : fnB Tryz.cfg Tryz.digs 13 Go.Proofs.Tryz.f13 = true := by kernel_rfl
theorem Tryz.ok14 : fnB Tryz.cfg Tryz.digs 14 Go.Proofs.Tryz.f14 = true := by kernel_rfl
theorem Tryz.ok15 : fnB Tryz.cfg Tryz.digs 15 Go.Proofs.Tryz.f15 = true := by kernel_rfl
theorem Tryz.ok16 : fnB Tryz.cfg Tryz.digs 16 Go.Proofs.Tryz.f16 = true := by kernel_rfl
theorem Tryz.ok17 : fnB Tryz.cfg Tryz.digs 17 Go.Proofs.Tryz.f17 = true := by kernel_rfl
theorem Tryz.ok18 : fnB Tryz.cfg Tryz.digs 18 Go.Proofs.Tryz.f18 = true := by kernel_rfl
theorem Tryz.ok19 : fnB Tryz.cfg Tryz.digs 19 Go.Proofs.Tryz.f19 = true := by kernel_rfl
theorem Tryz.ok20 : fnB Tryz.cfg Tryz.digs 20 Go.Proofs.Tryz.f20 = true := by kernel_rfl
theorem Tryz.ok21 : fnB Tryz.cfg Tryz.digs 21 Go.Proofs.Tryz.f21 = true := by kernel_rfl
theorem Tryz.ok22 : fnB Tryz.cfg Tryz.digs 22 Go.Proofs.Tryz.f22 = true := by kernel_rfl
theorem Tryz.ok23 : fnB Tryz.cfg Tryz.digs 23 Go.Proofs.Tryz.f23 = true := by kernel_rfl
theorem Tryz.ok24 : fnB Tryz.cfg Tryz.digs 24 Go.Proofs.Tryz.f24 = true := by kernel_rfl
theorem Tryz.ok25 : fnB Tryz.cfg Tryz.digs 25 Go.Proofs.Tryz.f25 = true := by kernel_rfl
theorem Tryz.ok26 : fnB Tryz.cfg Tryz.digs 26 Go.Proofs.Tryz.f26 = true := by kernel_rfl
theorem Tryz.ok27 : fnB Tryz.cfg Tryz.digs 27 Go.Proofs.Tryz.f27 = true := by kernel_rfl
theorem Tryz.ok28 : fnB Tryz.cfg Tryz.digs 28 Go.Proofs.Tryz.f28 = true := by kernel_rfl
theorem Tryz.ok29 : fnB Tryz.cfg Tryz.digs 29 Go.Proofs.Tryz.f29 = true := by kernel_rfl
theorem Tryz.ok33 : fnB Tryz.cfg Tryz.digs 33 Go.Proofs.Tryz.f33 = true := by kernel_rfl
theorem Tryz.ok34 : fnB Tryz.cfg Tryz.digs 34 Go.Proofs.Tryz.f34 = true := by kernel_rfl
theorem Tryz.ok35 : fnB Tryz.cfg Tryz.digs 35 Go.Proofs.Tryz.f35 = true := by kernel_rfl
theorem Tryz.ok36 : fnB Tryz.cfg Tryz.digs 36 Go.Proofs.Tryz.f36 = true := by kernel_rfl
theorem Tryz.ok37 : fnB Tryz.cfg Tryz.digs 37 Go.Proofs.Tryz.f37 = true := by kernel_rfl
theorem Tryz.ok38 : fnB Tryz.cfg Tryz.digs 38 Go.Proofs.Tryz.f38 = true := by kernel_rfl
theorem Tryz.ok39 : fnB Tryz.cfg Tryz.digs 39 Go.Proofs.Tryz.f39 = true := by kernel_rfl
theorem Tryz.ok40 : fnB Tryz.cfg Tryz.digs 40 Go.Proofs.Tryz.f40 = true := by kernel_rfl
theorem Tryz.ok41 : fnB Tryz.cfg Tryz.digs 41 Go.Proofs.Tryz.f41 = true := by kernel_rfl
theorem Tryz.ok45 : fnB Tryz.cfg Tryz.digs 45 Go.Proofs.Tryz.f45 = true := by kernel_rfl
theorem Tryz.ok46 : fnB Tryz.cfg Tryz.digs 46 Go.Proofs.Tryz.f46 = true := by kernel_rfl
theorem Tryz.ok47 : fnB Tryz.cfg Tryz.digs 47 Go.Proofs.Tryz.f47 = true := by kernel_rfl
theorem Tryz.ok48 : fnB Tryz.cfg Tryz.digs 48 Go.Proofs.Tryz.f48 = true := by kernel_rfl
theorem Tryz.ok49 : fnB Tryz.cfg Tryz.digs 49 Go.Proofs.Tryz.f49 = true := by kernel_rfl
theorem Tryz.ok50 : fnB Tryz.cfg Tryz.digs 50 Go.Proofs.Tryz.f50 = true := by kernel_rfl
theorem Tryz.ok51 : fnB Tryz.cfg Tryz.digs 51 Go.Proofs.Tryz.f51 = true := by kernel_rfl
theorem Tryz.ok52 : fnB Tryz.cfg Tryz.digs 52 Go.Proofs.Tryz.f52 = true := by kernel_rfl
theorem Tryz.ok53 : fnB Tryz.cfg Tryz.digs 53 Go.Proofs.Tryz.f53 = true := by kernel_rfl
theorem Tryz.ok54 : fnB Tryz.cfg Tryz.digs 54 Go.Proofs.Tryz.f54 = true := by kernel_rfl
theorem Tryz.ok55 : fnB Tryz.cfg Tryz.digs 55 Go.Proofs.Tryz.f55 = true := by kernel_rfl
theorem Tryz.ok56 : fnB Tryz.cfg Tryz.digs 56 Go.Proofs.Tryz.f56 = true := by kernel_rfl
theorem Tryz.ok57 : fnB Tryz.cfg Tryz.digs 57 Go.Proofs.Tryz.f57 = true := by kernel_rfl
theorem Tryz.ok58 : fnB Tryz.cfg Tryz.digs 58 Go.Proofs.Tryz.f58 = true := by kernel_rfl
theorem Tryz.ok59 : fnB Tryz.cfg Tryz.digs 59 Go.Proofs.Tryz.f59 = true := by kernel_rfl
theorem Tryz.ok60 : fnB Tryz.cfg Tryz.digs 60 Go.Proofs.Tryz.f60 = true := by kernel_rfl
theorem Tryz.ok61 : fnB Tryz.cfg Tryz.digs 61 Go.Proofs.Tryz.f61 = true := by kernel_rfl
theorem Tryz.ok62 : fnB Tryz.cfg Tryz.digs 62 Go.Proofs.Tryz.f62 = true := by kernel_rfl
theorem Tryz.ok63 : fnB Tryz.cfg Tryz.digs 63 Go.Proofs.Tryz.f63 = true := by kernel_rfl
theorem Tryz.ok64 : fnB Tryz.cfg Tryz.digs 64 Go.Proofs.Tryz.f64 = true := by kernel_rfl
theorem Tryz.ok65 : fnB Tryz.cfg Tryz.digs 65 Go.Proofs.Tryz.f65 = true := by kernel_rfl
theorem Tryz.ok66 : fnB Tryz.cfg Tryz.digs 66 Go.Proofs.Tryz.f66 = true := by kernel_rfl
theorem Tryz.ok67 : fnB Tryz.cfg Tryz.digs 67 Go.Proofs.Tryz.f67 = true := by kernel_rfl
theorem Tryz.ok68 : fnB Tryz.cfg Tryz.digs 68 Go.Proofs.Tryz.f68 = true := by kernel_rfl
theorem Tryz.ok69 : fnB Tryz.cfg Tryz.digs 69 Go.Proofs.Tryz.f69 = true := by kernel_rfl
theorem Tryz.ok70 : fnB Tryz.cfg Tryz.digs 70 Go.Proofs.Tryz.f70 = true := by kernel_rfl
theorem Tryz.ok71 : fnB Tryz.cfg Tryz.digs 71 Go.Proofs.Tryz.f71 = true := by kernel_rfl
theorem Tryz.ok73 : fnB Tryz.cfg Tryz.digs 73 Go.Proofs.Tryz.f73 = true := by kernel_rfl
theorem Tryz.ok95 : fnB Tryz.cfg Tryz.digs 95 Go.Proofs.Tryz.f95 = true := by kernel_rfl
theorem Tryz.ok112 : fnB Tryz.cfg Tryz.digs 112 Go.Proofs.Tryz.f112 = true := by kernel_rfl
theorem Tryz.ok117 : fnB Tryz.cfg Tryz.digs 117 Go.Proofs.Tryz.f117 = true := by kernel_rfl
theorem Tryz.ok119 : fnB Tryz.cfg Tryz.digs 119 Go.Proofs.Tryz.f119 = true := by kernel_rfl
theorem Tryz.ok121 : fnB Tryz.cfg Tryz.digs 121 Go.Proofs.Tryz.f121 = true := by kernel_rfl
theorem Tryz.ok128 : fnB Tryz.cfg Tryz.digs 128 Go.Proofs.Tryz.f128 = true := by kernel_rfl
theorem Tryz.fnsOk : FnsOk Go.Proofs.Tryz.prog Tryz.cfg Tryz.digs Tryz.fns := ⟨Go.Proofs.Tryz.func2, Tryz.ok2, Go.Proofs.Tryz.func3, Tryz.ok3, Go.Proofs.Tryz.func4, Tryz.ok4, Go.Proofs.Tryz.func5, Tryz.ok5, Go.Proofs.Tryz.func6, Tryz.ok6, Go.Proofs.Tryz.func7, Tryz.ok7, Go.Proofs.Tryz.func8, Tryz.ok8, Go.Proofs.Tryz.func9, Tryz.ok9, Go.Proofs.Tryz.func10, Tryz.ok10, Go.Proofs.Tryz.func11, Tryz.ok11, Go.Proofs.Tryz.func12, Tryz.ok12, Go.Proofs.Tryz.func13, Tryz.ok13, Go.Proofs.Tryz.func14, Tryz.ok14, Go.Proofs.Tryz.func15, Tryz.ok15, Go.Proofs.Tryz.func16, Tryz.ok16, Go.Proofs.Tryz.func17, Tryz.ok17, Go.Proofs.Tryz.func18, Tryz.ok18, Go.Proofs.Tryz.func19, Tryz.ok19, Go.Proofs.Tryz.func20, Tryz.ok20, Go.Proofs.Tryz.func21, Tryz.ok21, Go.Proofs.Tryz.func22, Tryz.ok22, Go.Proofs.Tryz.func23, Tryz.ok23, Go.Proofs.Tryz.func24, Tryz.ok24, Go.Proofs.Tryz.func25, Tryz.ok25, Go.Proofs.Tryz.func26, Tryz.ok26, Go.Proofs.Tryz.func27, Tryz.ok27, Go.Proofs.Tryz.func28, Tryz.ok28, Go.Proofs.Tryz.func29, Tryz.ok29, Go.Proofs.Tryz.func33, Tryz.ok33, Go.Proofs.Tryz.func34, Tryz.ok34, Go.Proofs.Tryz.func35, Tryz.ok35, Go.Proofs.Tryz.func36, Tryz.ok36, Go.Proofs.Tryz.func37, Tryz.ok37, Go.Proofs.Tryz.func38, Tryz.ok38, Go.Proofs.Tryz.func39, Tryz.ok39, Go.Proofs.Tryz.func40, Tryz.ok40, Go.Proofs.Tryz.func41, Tryz.ok41, Go.Proofs.Tryz.func45, Tryz.ok45, Go.Proofs.Tryz.func46, Tryz.ok46, Go.Proofs.Tryz.func47, Tryz.ok47, Go.Proofs.Tryz.func48, Tryz.ok48, Go.Proofs.Tryz.func49, Tryz.ok49, Go.Proofs.Tryz.func50, Tryz.ok50, Go.Proofs.Tryz.func51, Tryz.ok51, Go.Proofs.Tryz.func52, Tryz.ok52, Go.Proofs.Tryz.func53, Tryz.ok53, Go.Proofs.Tryz.func54, Tryz.ok54, Go.Proofs.Tryz.func55, Tryz.ok55, Go.Proofs.Tryz.func56, Tryz.ok56, Go.Proofs.Tryz.func57, Tryz.ok57, Go.Proofs.Tryz.func58, Tryz.ok58, Go.Proofs.Tryz.func59, Tryz.ok59, Go.Proofs.Tryz.func60, Tryz.ok60, Go.Proofs.Tryz.func61, Tryz.ok61, Go.Proofs.Tryz.func62, Tryz.ok62, Go.Proofs.Tryz.func63, Tryz.ok63, Go.Proofs.Tryz.func64, Tryz.ok64, Go.Proofs.Tryz.func65, Tryz.ok65, Go.Proofs.Tryz.func66, Tryz.ok66, Go.Proofs.Tryz.func67, Tryz.ok67, Go.Proofs.Tryz.func68, Tryz.ok68, Go.Proofs.Tryz.func69, Tryz.ok69, Go.Proofs.Tryz.func70, Tryz.ok70, Go.Proofs.Tryz.func71, Tryz.ok71, Go.Proofs.Tryz.func73, Tryz.ok73, Go.Proofs.Tryz.func95, Tryz.ok95, Go.Proofs.Tryz.func112, Tryz.ok112, Go.Proofs.Tryz.func117, Tryz.ok117, Go.Proofs.Tryz.func119, Tryz.ok119, Go.Proofs.Tryz.func121, Tryz.ok121, Go.Proofs.Tryz.func128, Tryz.ok128, trivial⟩
end Go.Ab
