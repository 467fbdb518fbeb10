/- The seat's program: its types, plans, what lives at loops' heads; the context. Printed by mkseat.py. -/
import Derived.Test.YtmkkhaonakdgpaaDoorG3
import Derived.Test.YtmkkhaonakdgpaaDoorProg
import Derived.KernelRfl
namespace Go.Ab
open Go Go.Proofs
def Tryd.tab : Tab := [
  (0, ⟨1, false, .other, [], none, 0, false⟩),
  (1, ⟨1, false, .other, [], (some (.nilf)), 8, false⟩),
  (2, ⟨1, false, (.int .i64), [], (some (.int .i64 0)), 8, true⟩),
  (3, ⟨1, false, (.int .i64), [], (some (.int .i64 0)), 8, true⟩),
  (4, ⟨1, false, .bool, [], (some (.bool false)), 1, true⟩),
  (5, ⟨1, false, (.int .u8), [], (some (.int .u8 0)), 1, true⟩),
  (6, ⟨1, false, (.int .u8), [], (some (.int .u8 0)), 1, true⟩),
  (7, ⟨4, true, .struct, [(0, 2), (1, 3), (2, 4), (3, 6)], (some (.agg [.int .i64 0, .int .i64 0, .bool false, .int .u8 0])), 24, true⟩),
  (8, ⟨4, true, .struct, [(0, 2), (1, 3), (2, 4), (3, 6)], (some (.agg [.int .i64 0, .int .i64 0, .bool false, .int .u8 0])), 24, true⟩),
  (9, ⟨1, false, .string, [], (some (.str [])), 16, true⟩),
  (10, ⟨1, false, .string, [], (some (.str [])), 16, true⟩),
  (11, ⟨1, false, .string, [], (some (.str [])), 16, true⟩),
  (12, ⟨1, false, (.int .u64), [], (some (.int .u64 0)), 8, true⟩),
  (13, ⟨2, true, .struct, [(0, 9), (1, 12)], (some (.agg [.str [], .int .u64 0])), 24, false⟩),
  (14, ⟨2, true, .struct, [(0, 9), (1, 12)], (some (.agg [.str [], .int .u64 0])), 24, false⟩),
  (15, ⟨1, false, (.pointer 148), [], (some (.nilp)), 8, true⟩),
  (16, ⟨1, false, (.pointer 151), [], (some (.nilp)), 8, true⟩),
  (17, ⟨1, false, (.pointer 161), [], (some (.nilp)), 8, true⟩),
  (18, ⟨1, true, .struct, [(0, 17)], (some (.agg [.nilp])), 8, false⟩),
  (19, ⟨1, true, .struct, [(0, 17)], (some (.agg [.nilp])), 8, false⟩),
  (20, ⟨1, false, .iface, [], (some (.nili)), 16, true⟩),
  (21, ⟨1, false, (.int .i32), [], (some (.int .i32 0)), 4, true⟩),
  (22, ⟨1, false, .other, [], (some (.nilf)), 8, false⟩),
  (23, ⟨3, true, .struct, [(0, 3), (1, 3), (2, 3)], (some (.agg [.int .i64 0, .int .i64 0, .int .i64 0])), 24, true⟩),
  (24, ⟨3, true, .struct, [(0, 3), (1, 3), (2, 3)], (some (.agg [.int .i64 0, .int .i64 0, .int .i64 0])), 24, true⟩),
  (25, ⟨1, false, (.slice 33), [], (some (.nils)), 24, false⟩),
  (26, ⟨8, true, .struct, [(0, 3), (1, 24), (4, 4), (5, 25), (6, 9), (7, 9)], (some (.agg [.int .i64 0, .int .i64 0, .int .i64 0, .int .i64 0, .bool false, .nils, .str [], .str []])), 96, false⟩),
  (27, ⟨8, true, .struct, [(0, 3), (1, 24), (4, 4), (5, 25), (6, 9), (7, 9)], (some (.agg [.int .i64 0, .int .i64 0, .int .i64 0, .int .i64 0, .bool false, .nils, .str [], .str []])), 96, false⟩),
  (28, ⟨1, false, .other, [], none, 0, false⟩),
  (29, ⟨1, false, .other, [], (some (.nilf)), 8, false⟩),
  (30, ⟨1, false, (.slice 5), [], (some (.nils)), 24, false⟩),
  (31, ⟨1, false, (.slice 9), [], (some (.nils)), 24, false⟩),
  (32, ⟨2, true, .struct, [(0, 3), (1, 3)], (some (.agg [.int .i64 0, .int .i64 0])), 16, true⟩),
  (33, ⟨2, true, .struct, [(0, 3), (1, 3)], (some (.agg [.int .i64 0, .int .i64 0])), 16, true⟩),
  (34, ⟨1, false, .other, [], (some (.nilf)), 8, false⟩),
  (35, ⟨1, false, (.pointer 55), [], (some (.nilp)), 8, true⟩),
  (36, ⟨1, false, .other, [], (some (.nilf)), 8, false⟩),
  (37, ⟨1, false, .other, [], (some (.nilf)), 8, false⟩),
  (38, ⟨1, false, .other, [], (some (.nilf)), 8, false⟩),
  (39, ⟨1, false, .other, [], (some (.nilf)), 8, false⟩),
  (40, ⟨1, false, .other, [], (some (.nilf)), 8, false⟩),
  (41, ⟨1, false, (.pointer 45), [], (some (.nilp)), 8, true⟩),
  (42, ⟨1, false, .iface, [], (some (.nili)), 16, true⟩),
  (43, ⟨1, false, .iface, [], (some (.nili)), 16, true⟩),
  (44, ⟨3, true, .struct, [(0, 30), (1, 3), (2, 43)], (some (.agg [.nils, .int .i64 0, .nili])), 48, false⟩),
  (45, ⟨3, true, .struct, [(0, 30), (1, 3), (2, 43)], (some (.agg [.nils, .int .i64 0, .nili])), 48, false⟩),
  (46, ⟨1, true, .struct, [(0, 9)], (some (.agg [.str []])), 16, true⟩),
  (47, ⟨1, true, .struct, [(0, 9)], (some (.agg [.str []])), 16, true⟩),
  (48, ⟨1, false, .other, [], (some (.nilf)), 8, false⟩),
  (49, ⟨1, false, (.pointer 47), [], (some (.nilp)), 8, true⟩),
  (50, ⟨1, false, .other, [], (some (.nilf)), 8, false⟩),
  (51, ⟨1, false, (.slice 3), [], (some (.nils)), 24, false⟩),
  (52, ⟨1, false, .other, [], (some (.nilf)), 8, false⟩),
  (53, ⟨1, false, .other, [], (some (.nilf)), 8, false⟩),
  (54, ⟨2, true, .struct, [(0, 30), (1, 3)], (some (.agg [.nils, .int .i64 0])), 32, false⟩),
  (55, ⟨2, true, .struct, [(0, 30), (1, 3)], (some (.agg [.nils, .int .i64 0])), 32, false⟩),
  (56, ⟨1, false, .other, [], (some (.nilf)), 8, false⟩),
  (57, ⟨1, false, .other, [], (some (.nilf)), 8, false⟩),
  (58, ⟨1, false, .other, [], (some (.nilf)), 8, false⟩),
  (59, ⟨1, false, .other, [], (some (.nilf)), 8, false⟩),
  (60, ⟨1, false, .other, [], (some (.nilf)), 8, false⟩),
  (61, ⟨1, false, .other, [], (some (.nilf)), 8, false⟩),
  (62, ⟨1, true, .struct, [(0, 43)], (some (.agg [.nili])), 16, false⟩),
  (63, ⟨1, true, .struct, [(0, 43)], (some (.agg [.nili])), 16, false⟩),
  (64, ⟨1, false, .other, [], (some (.nilp)), 8, true⟩),
  (65, ⟨1, false, (.int .u64), [], (some (.int .u64 0)), 8, true⟩),
  (66, ⟨3, true, .struct, [(0, 17), (1, 64), (2, 65)], (some (.agg [.nilp, .nilp, .int .u64 0])), 24, false⟩),
  (67, ⟨3, true, .struct, [(0, 17), (1, 64), (2, 65)], (some (.agg [.nilp, .nilp, .int .u64 0])), 24, false⟩),
  (68, ⟨1, false, .other, [], (some (.nilf)), 8, false⟩),
  (69, ⟨1, false, .iface, [], (some (.nili)), 16, true⟩),
  (70, ⟨1, false, .iface, [], (some (.nili)), 16, true⟩),
  (71, ⟨1, false, .other, [], (some (.nilf)), 8, false⟩),
  (72, ⟨1, false, (.int .u8), [], (some (.int .u8 0)), 1, true⟩),
  (73, ⟨1, false, .other, [], (some (.nilf)), 8, false⟩),
  (74, ⟨1, false, .other, [], (some (.nilf)), 8, false⟩),
  (75, ⟨1, false, .other, [], (some (.nilf)), 8, false⟩),
  (76, ⟨1, false, (.pointer 100), [], (some (.nilp)), 8, true⟩),
  (77, ⟨1, false, .other, [], (some (.nilf)), 8, false⟩),
  (78, ⟨1, false, (.pointer 76), [], (some (.nilp)), 8, true⟩),
  (79, ⟨1, false, .other, [], (some (.nilf)), 8, false⟩),
  (80, ⟨1, false, (.int .u64), [], (some (.int .u64 0)), 8, true⟩),
  (81, ⟨1, false, .other, [], none, 0, false⟩),
  (82, ⟨1, false, .other, [], (some (.nilf)), 8, false⟩),
  (83, ⟨1, false, .other, [], none, 0, false⟩),
  (84, ⟨1, false, .other, [], (some (.nilf)), 8, false⟩),
  (85, ⟨1, true, .struct, [(0, 17)], (some (.agg [.nilp])), 8, false⟩),
  (86, ⟨1, true, .struct, [(0, 17)], (some (.agg [.nilp])), 8, false⟩),
  (87, ⟨1, false, (.pointer 165), [], (some (.nilp)), 8, true⟩),
  (88, ⟨1, false, .other, [], (some (.nilf)), 8, false⟩),
  (89, ⟨1, false, .other, [], (some (.nilf)), 8, false⟩),
  (90, ⟨1, false, .other, [], (some (.nilf)), 8, false⟩),
  (91, ⟨1, false, .iface, [], (some (.nili)), 16, true⟩),
  (92, ⟨1, false, .other, [], none, 0, false⟩),
  (93, ⟨1, false, .other, [], (some (.nilf)), 8, false⟩),
  (94, ⟨1, false, .iface, [], (some (.nili)), 16, true⟩),
  (95, ⟨1, false, .other, [], (some (.nilf)), 8, false⟩),
  (96, ⟨1, false, .iface, [], (some (.nili)), 16, true⟩),
  (97, ⟨1, false, (.slice 43), [], (some (.nils)), 24, false⟩),
  (98, ⟨1, false, .other, [], (some (.nilf)), 8, false⟩),
  (99, ⟨1, true, .struct, [(0, 9)], (some (.agg [.str []])), 16, true⟩),
  (100, ⟨1, true, .struct, [(0, 9)], (some (.agg [.str []])), 16, true⟩),
  (101, ⟨1, true, .struct, [(0, 43)], (some (.agg [.nili])), 16, false⟩),
  (102, ⟨1, true, .struct, [(0, 43)], (some (.agg [.nili])), 16, false⟩),
  (103, ⟨1, false, .other, [], (some (.nilf)), 8, false⟩),
  (104, ⟨1, false, .other, [], (some (.nilf)), 8, false⟩),
  (105, ⟨1, false, .other, [], (some (.nilf)), 8, false⟩),
  (106, ⟨1, false, .other, [], none, 0, false⟩),
  (107, ⟨1, false, .other, [], (some (.nilf)), 8, false⟩),
  (108, ⟨1, false, .other, [], (some (.nilf)), 8, false⟩),
  (109, ⟨0, true, .struct, [], (some (.agg [])), 0, true⟩),
  (110, ⟨0, true, .struct, [], (some (.agg [])), 0, true⟩),
  (111, ⟨0, true, .struct, [], (some (.agg [])), 0, true⟩),
  (112, ⟨1, false, .other, [], (some (.nilf)), 8, false⟩),
  (113, ⟨0, true, .struct, [], (some (.agg [])), 0, true⟩),
  (114, ⟨1, false, .other, [], (some (.nilf)), 8, false⟩),
  (115, ⟨1, true, .struct, [(0, 43)], (some (.agg [.nili])), 16, false⟩),
  (116, ⟨1, true, .struct, [(0, 43)], (some (.agg [.nili])), 16, false⟩),
  (117, ⟨1, false, .other, [], (some (.nilf)), 8, false⟩),
  (118, ⟨1, false, .other, [], (some (.nilf)), 8, false⟩),
  (119, ⟨1, false, .other, [], (some (.nilf)), 8, false⟩),
  (120, ⟨1, false, .other, [], (some (.nilf)), 8, false⟩),
  (121, ⟨256, true, (.array 256 4), [], (some (.agg [.bool false, .bool false, .bool false, .bool false, .bool false, .bool false, .bool false, .bool false, .bool false, .bool false, .bool false, .bool false, .bool false, .bool false, .bool false, .bool false, .bool false, .bool false, .bool false, .bool false, .bool false, .bool false, .bool false, .bool false, .bool false, .bool false, .bool false, .bool false, .bool false, .bool false, .bool false, .bool false, .bool false, .bool false, .bool false, .bool false, .bool false, .bool false, .bool false, .bool false, .bool false, .bool false, .bool false, .bool false, .bool false, .bool false, .bool false, .bool false, .bool false, .bool false, .bool false, .bool false, .bool false, .bool false, .bool false, .bool false, .bool false, .bool false, .bool false, .bool false, .bool false, .bool false, .bool false, .bool false, .bool false, .bool false, .bool false, .bool false, .bool false, .bool false, .bool false, .bool false, .bool false, .bool false, .bool false, .bool false, .bool false, .bool false, .bool false, .bool false, .bool false, .bool false, .bool false, .bool false, .bool false, .bool false, .bool false, .bool false, .bool false, .bool false, .bool false, .bool false, .bool false, .bool false, .bool false, .bool false, .bool false, .bool false, .bool false, .bool false, .bool false, .bool false, .bool false, .bool false, .bool false, .bool false, .bool false, .bool false, .bool false, .bool false, .bool false, .bool false, .bool false, .bool false, .bool false, .bool false, .bool false, .bool false, .bool false, .bool false, .bool false, .bool false, .bool false, .bool false, .bool false, .bool false, .bool false, .bool false, .bool false, .bool false, .bool false, .bool false, .bool false, .bool false, .bool false, .bool false, .bool false, .bool false, .bool false, .bool false, .bool false, .bool false, .bool false, .bool false, .bool false, .bool false, .bool false, .bool false, .bool false, .bool false, .bool false, .bool false, .bool false, .bool false, .bool false, .bool false, .bool false, .bool false, .bool false, .bool false, .bool false, .bool false, .bool false, .bool false, .bool false, .bool false, .bool false, .bool false, .bool false, .bool false, .bool false, .bool false, .bool false, .bool false, .bool false, .bool false, .bool false, .bool false, .bool false, .bool false, .bool false, .bool false, .bool false, .bool false, .bool false, .bool false, .bool false, .bool false, .bool false, .bool false, .bool false, .bool false, .bool false, .bool false, .bool false, .bool false, .bool false, .bool false, .bool false, .bool false, .bool false, .bool false, .bool false, .bool false, .bool false, .bool false, .bool false, .bool false, .bool false, .bool false, .bool false, .bool false, .bool false, .bool false, .bool false, .bool false, .bool false, .bool false, .bool false, .bool false, .bool false, .bool false, .bool false, .bool false, .bool false, .bool false, .bool false, .bool false, .bool false, .bool false, .bool false, .bool false, .bool false, .bool false, .bool false, .bool false, .bool false, .bool false, .bool false, .bool false, .bool false, .bool false, .bool false, .bool false, .bool false, .bool false, .bool false, .bool false, .bool false, .bool false, .bool false, .bool false, .bool false, .bool false, .bool false, .bool false])), 256, true⟩),
  (122, ⟨256, true, (.array 256 4), [], (some (.agg [.bool false, .bool false, .bool false, .bool false, .bool false, .bool false, .bool false, .bool false, .bool false, .bool false, .bool false, .bool false, .bool false, .bool false, .bool false, .bool false, .bool false, .bool false, .bool false, .bool false, .bool false, .bool false, .bool false, .bool false, .bool false, .bool false, .bool false, .bool false, .bool false, .bool false, .bool false, .bool false, .bool false, .bool false, .bool false, .bool false, .bool false, .bool false, .bool false, .bool false, .bool false, .bool false, .bool false, .bool false, .bool false, .bool false, .bool false, .bool false, .bool false, .bool false, .bool false, .bool false, .bool false, .bool false, .bool false, .bool false, .bool false, .bool false, .bool false, .bool false, .bool false, .bool false, .bool false, .bool false, .bool false, .bool false, .bool false, .bool false, .bool false, .bool false, .bool false, .bool false, .bool false, .bool false, .bool false, .bool false, .bool false, .bool false, .bool false, .bool false, .bool false, .bool false, .bool false, .bool false, .bool false, .bool false, .bool false, .bool false, .bool false, .bool false, .bool false, .bool false, .bool false, .bool false, .bool false, .bool false, .bool false, .bool false, .bool false, .bool false, .bool false, .bool false, .bool false, .bool false, .bool false, .bool false, .bool false, .bool false, .bool false, .bool false, .bool false, .bool false, .bool false, .bool false, .bool false, .bool false, .bool false, .bool false, .bool false, .bool false, .bool false, .bool false, .bool false, .bool false, .bool false, .bool false, .bool false, .bool false, .bool false, .bool false, .bool false, .bool false, .bool false, .bool false, .bool false, .bool false, .bool false, .bool false, .bool false, .bool false, .bool false, .bool false, .bool false, .bool false, .bool false, .bool false, .bool false, .bool false, .bool false, .bool false, .bool false, .bool false, .bool false, .bool false, .bool false, .bool false, .bool false, .bool false, .bool false, .bool false, .bool false, .bool false, .bool false, .bool false, .bool false, .bool false, .bool false, .bool false, .bool false, .bool false, .bool false, .bool false, .bool false, .bool false, .bool false, .bool false, .bool false, .bool false, .bool false, .bool false, .bool false, .bool false, .bool false, .bool false, .bool false, .bool false, .bool false, .bool false, .bool false, .bool false, .bool false, .bool false, .bool false, .bool false, .bool false, .bool false, .bool false, .bool false, .bool false, .bool false, .bool false, .bool false, .bool false, .bool false, .bool false, .bool false, .bool false, .bool false, .bool false, .bool false, .bool false, .bool false, .bool false, .bool false, .bool false, .bool false, .bool false, .bool false, .bool false, .bool false, .bool false, .bool false, .bool false, .bool false, .bool false, .bool false, .bool false, .bool false, .bool false, .bool false, .bool false, .bool false, .bool false, .bool false, .bool false, .bool false, .bool false, .bool false, .bool false, .bool false, .bool false, .bool false, .bool false, .bool false, .bool false, .bool false, .bool false, .bool false, .bool false, .bool false, .bool false, .bool false, .bool false, .bool false, .bool false, .bool false])), 256, true⟩),
  (123, ⟨1, false, .other, [], none, 0, false⟩),
  (124, ⟨1, false, .other, [], (some (.nilf)), 8, false⟩),
  (125, ⟨1, false, .other, [], (some (.nilf)), 8, false⟩),
  (126, ⟨1, false, (.pointer 122), [], (some (.nilp)), 8, true⟩),
  (127, ⟨1, false, .iface, [], (some (.nili)), 16, true⟩),
  (128, ⟨1, false, .other, [], none, 0, false⟩),
  (129, ⟨1, false, .other, [], (some (.nilf)), 8, false⟩),
  (130, ⟨1, false, (.pointer 132), [], (some (.nilp)), 8, true⟩),
  (131, ⟨1, true, .struct, [(0, 97)], (some (.agg [.nils])), 24, false⟩),
  (132, ⟨1, true, .struct, [(0, 97)], (some (.agg [.nils])), 24, false⟩),
  (133, ⟨2, true, .struct, [(0, 9), (1, 43)], (some (.agg [.str [], .nili])), 32, false⟩),
  (134, ⟨2, true, .struct, [(0, 9), (1, 43)], (some (.agg [.str [], .nili])), 32, false⟩),
  (135, ⟨1, false, .other, [], (some (.nilf)), 8, false⟩),
  (136, ⟨1, false, .other, [], none, 0, false⟩),
  (137, ⟨1, false, .other, [], (some (.nilf)), 8, false⟩),
  (138, ⟨1, false, .other, [], (some (.nilf)), 8, false⟩),
  (139, ⟨1, false, .other, [], (some (.nilf)), 8, false⟩),
  (140, ⟨256, true, (.array 256 5), [], (some (.agg [.int .u8 0, .int .u8 0, .int .u8 0, .int .u8 0, .int .u8 0, .int .u8 0, .int .u8 0, .int .u8 0, .int .u8 0, .int .u8 0, .int .u8 0, .int .u8 0, .int .u8 0, .int .u8 0, .int .u8 0, .int .u8 0, .int .u8 0, .int .u8 0, .int .u8 0, .int .u8 0, .int .u8 0, .int .u8 0, .int .u8 0, .int .u8 0, .int .u8 0, .int .u8 0, .int .u8 0, .int .u8 0, .int .u8 0, .int .u8 0, .int .u8 0, .int .u8 0, .int .u8 0, .int .u8 0, .int .u8 0, .int .u8 0, .int .u8 0, .int .u8 0, .int .u8 0, .int .u8 0, .int .u8 0, .int .u8 0, .int .u8 0, .int .u8 0, .int .u8 0, .int .u8 0, .int .u8 0, .int .u8 0, .int .u8 0, .int .u8 0, .int .u8 0, .int .u8 0, .int .u8 0, .int .u8 0, .int .u8 0, .int .u8 0, .int .u8 0, .int .u8 0, .int .u8 0, .int .u8 0, .int .u8 0, .int .u8 0, .int .u8 0, .int .u8 0, .int .u8 0, .int .u8 0, .int .u8 0, .int .u8 0, .int .u8 0, .int .u8 0, .int .u8 0, .int .u8 0, .int .u8 0, .int .u8 0, .int .u8 0, .int .u8 0, .int .u8 0, .int .u8 0, .int .u8 0, .int .u8 0, .int .u8 0, .int .u8 0, .int .u8 0, .int .u8 0, .int .u8 0, .int .u8 0, .int .u8 0, .int .u8 0, .int .u8 0, .int .u8 0, .int .u8 0, .int .u8 0, .int .u8 0, .int .u8 0, .int .u8 0, .int .u8 0, .int .u8 0, .int .u8 0, .int .u8 0, .int .u8 0, .int .u8 0, .int .u8 0, .int .u8 0, .int .u8 0, .int .u8 0, .int .u8 0, .int .u8 0, .int .u8 0, .int .u8 0, .int .u8 0, .int .u8 0, .int .u8 0, .int .u8 0, .int .u8 0, .int .u8 0, .int .u8 0, .int .u8 0, .int .u8 0, .int .u8 0, .int .u8 0, .int .u8 0, .int .u8 0, .int .u8 0, .int .u8 0, .int .u8 0, .int .u8 0, .int .u8 0, .int .u8 0, .int .u8 0, .int .u8 0, .int .u8 0, .int .u8 0, .int .u8 0, .int .u8 0, .int .u8 0, .int .u8 0, .int .u8 0, .int .u8 0, .int .u8 0, .int .u8 0, .int .u8 0, .int .u8 0, .int .u8 0, .int .u8 0, .int .u8 0, .int .u8 0, .int .u8 0, .int .u8 0, .int .u8 0, .int .u8 0, .int .u8 0, .int .u8 0, .int .u8 0, .int .u8 0, .int .u8 0, .int .u8 0, .int .u8 0, .int .u8 0, .int .u8 0, .int .u8 0, .int .u8 0, .int .u8 0, .int .u8 0, .int .u8 0, .int .u8 0, .int .u8 0, .int .u8 0, .int .u8 0, .int .u8 0, .int .u8 0, .int .u8 0, .int .u8 0, .int .u8 0, .int .u8 0, .int .u8 0, .int .u8 0, .int .u8 0, .int .u8 0, .int .u8 0, .int .u8 0, .int .u8 0, .int .u8 0, .int .u8 0, .int .u8 0, .int .u8 0, .int .u8 0, .int .u8 0, .int .u8 0, .int .u8 0, .int .u8 0, .int .u8 0, .int .u8 0, .int .u8 0, .int .u8 0, .int .u8 0, .int .u8 0, .int .u8 0, .int .u8 0, .int .u8 0, .int .u8 0, .int .u8 0, .int .u8 0, .int .u8 0, .int .u8 0, .int .u8 0, .int .u8 0, .int .u8 0, .int .u8 0, .int .u8 0, .int .u8 0, .int .u8 0, .int .u8 0, .int .u8 0, .int .u8 0, .int .u8 0, .int .u8 0, .int .u8 0, .int .u8 0, .int .u8 0, .int .u8 0, .int .u8 0, .int .u8 0, .int .u8 0, .int .u8 0, .int .u8 0, .int .u8 0, .int .u8 0, .int .u8 0, .int .u8 0, .int .u8 0, .int .u8 0, .int .u8 0, .int .u8 0, .int .u8 0, .int .u8 0, .int .u8 0, .int .u8 0, .int .u8 0, .int .u8 0, .int .u8 0, .int .u8 0, .int .u8 0, .int .u8 0, .int .u8 0, .int .u8 0, .int .u8 0, .int .u8 0, .int .u8 0, .int .u8 0, .int .u8 0, .int .u8 0, .int .u8 0, .int .u8 0, .int .u8 0, .int .u8 0, .int .u8 0])), 256, true⟩),
  (141, ⟨2, true, .struct, [(0, 5), (1, 5)], (some (.agg [.int .u8 0, .int .u8 0])), 2, true⟩),
  (142, ⟨2, true, .struct, [(0, 5), (1, 5)], (some (.agg [.int .u8 0, .int .u8 0])), 2, true⟩),
  (143, ⟨32, true, (.array 16 142), [(0, 142), (2, 142), (4, 142), (6, 142), (8, 142), (10, 142), (12, 142), (14, 142), (16, 142), (18, 142), (20, 142), (22, 142), (24, 142), (26, 142), (28, 142), (30, 142)], (some (.agg [.int .u8 0, .int .u8 0, .int .u8 0, .int .u8 0, .int .u8 0, .int .u8 0, .int .u8 0, .int .u8 0, .int .u8 0, .int .u8 0, .int .u8 0, .int .u8 0, .int .u8 0, .int .u8 0, .int .u8 0, .int .u8 0, .int .u8 0, .int .u8 0, .int .u8 0, .int .u8 0, .int .u8 0, .int .u8 0, .int .u8 0, .int .u8 0, .int .u8 0, .int .u8 0, .int .u8 0, .int .u8 0, .int .u8 0, .int .u8 0, .int .u8 0, .int .u8 0])), 32, true⟩),
  (144, ⟨1, false, .other, [], (some (.nilf)), 8, false⟩),
  (145, ⟨1, false, .other, [], (some (.nilf)), 8, false⟩),
  (146, ⟨1, false, .other, [], (some (.nilf)), 8, false⟩),
  (147, ⟨4, true, .struct, [(0, 17), (1, 17), (2, 17), (3, 9)], (some (.agg [.nilp, .nilp, .nilp, .str []])), 40, false⟩),
  (148, ⟨4, true, .struct, [(0, 17), (1, 17), (2, 17), (3, 9)], (some (.agg [.nilp, .nilp, .nilp, .str []])), 40, false⟩),
  (149, ⟨0, true, (.array 0 16), [], (some (.agg [])), 0, true⟩),
  (150, ⟨0, true, .struct, [(0, 149)], (some (.agg [])), 0, false⟩),
  (151, ⟨0, true, .struct, [(0, 149)], (some (.agg [])), 0, false⟩),
  (152, ⟨1, false, .other, [], (some (.nilf)), 8, false⟩),
  (153, ⟨1, false, .other, [], (some (.nilf)), 8, false⟩),
  (154, ⟨1, false, (.int .u32), [], (some (.int .u32 0)), 4, true⟩),
  (155, ⟨1, false, (.int .u8), [], (some (.int .u8 0)), 1, true⟩),
  (156, ⟨1, false, .other, [], (some (.nilf)), 8, false⟩),
  (157, ⟨1, false, (.pointer 5), [], (some (.nilp)), 8, true⟩),
  (158, ⟨1, false, (.int .i32), [], (some (.int .i32 0)), 4, true⟩),
  (159, ⟨1, false, (.int .i32), [], (some (.int .i32 0)), 4, true⟩),
  (160, ⟨11, true, .struct, [(0, 12), (1, 12), (2, 154), (3, 155), (4, 5), (5, 5), (6, 72), (7, 156), (8, 157), (9, 158), (10, 159)], (some (.agg [.int .u64 0, .int .u64 0, .int .u32 0, .int .u8 0, .int .u8 0, .int .u8 0, .int .u8 0, .nilf, .nilp, .int .i32 0, .int .i32 0])), 48, false⟩),
  (161, ⟨11, true, .struct, [(0, 12), (1, 12), (2, 154), (3, 155), (4, 5), (5, 5), (6, 72), (7, 156), (8, 157), (9, 158), (10, 159)], (some (.agg [.int .u64 0, .int .u64 0, .int .u32 0, .int .u8 0, .int .u8 0, .int .u8 0, .int .u8 0, .nilf, .nilp, .int .i32 0, .int .i32 0])), 48, false⟩),
  (162, ⟨1, false, .other, [], (some (.nilf)), 8, false⟩),
  (163, ⟨1, false, .other, [], (some (.nilf)), 8, false⟩),
  (164, ⟨2, true, .struct, [(0, 9), (1, 72)], (some (.agg [.str [], .int .u8 0])), 24, false⟩),
  (165, ⟨2, true, .struct, [(0, 9), (1, 72)], (some (.agg [.str [], .int .u8 0])), 24, false⟩),
  (166, ⟨1, false, (.pointer 170), [], (some (.nilp)), 8, true⟩),
  (167, ⟨1, false, .other, [], (some (.nilf)), 8, false⟩),
  (168, ⟨1, false, (.int .u16), [], (some (.int .u16 0)), 2, true⟩),
  (169, ⟨5, true, .struct, [(0, 158), (1, 168), (2, 168), (3, 154), (4, 154)], (some (.agg [.int .i32 0, .int .u16 0, .int .u16 0, .int .u32 0, .int .u32 0])), 16, false⟩),
  (170, ⟨5, true, .struct, [(0, 158), (1, 168), (2, 168), (3, 154), (4, 154)], (some (.agg [.int .i32 0, .int .u16 0, .int .u16 0, .int .u32 0, .int .u32 0])), 16, false⟩),
  (171, ⟨1, false, (.slice 174), [], (some (.nils)), 24, false⟩),
  (172, ⟨1, false, (.int .i32), [], (some (.int .i32 0)), 4, true⟩),
  (173, ⟨4, true, .struct, [(0, 158), (1, 159), (2, 172), (3, 172)], (some (.agg [.int .i32 0, .int .i32 0, .int .i32 0, .int .i32 0])), 16, false⟩),
  (174, ⟨4, true, .struct, [(0, 158), (1, 159), (2, 172), (3, 172)], (some (.agg [.int .i32 0, .int .i32 0, .int .i32 0, .int .i32 0])), 16, false⟩),
  (175, ⟨1, false, (.pointer 43), [], (some (.nilp)), 8, true⟩)]
def Tryd.plans : List (Nat × Nat × Plan) := [
  (5, 6, (.sil 0 (.sil 2 (.eff 1 (.eff 3 (.sil 4 (.sil 5 .stop))))))),
  (5, 7, (.sil 0 (.sil 1 (.sil 2 (.sil 3 (.sil 4 (.sil 5 (.sil 6 (.sil 7 (.sil 8 (.sil 9 (.sil 10 (.sil 11 (.sil 12 (.sil 13 (.sil 14 (.sil 15 (.sil 16 (.sil 17 (.sil 18 .stop)))))))))))))))))))),
  (7, 4, (.sil 0 (.sil 1 (.sil 2 (.sil 3 (.sil 4 (.eff 5 (.sil 6 (.sil 7 (.sil 10 (.sil 11 (.sil 12 (.sil 13 (.sil 14 (.sil 15 (.sil 16 (.eff 8 (.sil 9 (.sil 17 (.sil 18 .stop)))))))))))))))))))),
  (7, 6, (.sil 0 (.sil 1 (.sil 2 (.sil 3 (.sil 4 (.eff 5 (.sil 6 (.sil 7 .stop))))))))),
  (8, 18, (.sil 0 (.sil 1 (.sil 2 (.sil 4 (.sil 5 (.eff 3 (.eff 6 (.sil 7 .stop))))))))),
  (11, 6, (.sil 0 (.sil 1 (.sil 2 (.sil 3 (.sil 4 (.sil 5 (.sil 6 (.sil 7 (.sil 8 (.sil 9 (.sil 10 .stop)))))))))))),
  (12, 8, (.sil 0 (.sil 1 (.sil 2 (.sil 4 (.eff 3 (.eff 5 (.sil 6 (.eff 7 (.eff 8 (.sil 9 (.eff 10 .stop)))))))))))),
  (17, 1, (.sil 0 (.sil 1 (.sil 2 (.sil 3 (.sil 4 (.sil 5 (.sil 6 (.sil 7 (.sil 8 (.sil 9 (.sil 10 (.sil 11 (.sil 12 (.sil 13 .stop))))))))))))))),
  (17, 4, (.sil 0 (.sil 1 (.sil 2 (.sil 3 (.sil 4 (.sil 5 (.sil 6 (.sil 7 (.sil 8 (.sil 9 (.sil 10 (.sil 11 (.sil 12 (.sil 13 (.sil 14 .stop)))))))))))))))),
  (21, 3, (.sil 0 (.sil 1 (.sil 2 (.sil 3 (.sil 4 (.sil 5 (.sil 6 (.sil 7 (.sil 8 (.eff 9 (.sil 10 (.sil 11 (.sil 12 (.sil 13 (.sil 14 (.sil 15 (.sil 16 .stop)))))))))))))))))),
  (22, 3, (.sil 0 (.sil 1 (.sil 2 (.sil 3 (.sil 4 (.sil 5 (.sil 6 (.sil 7 (.sil 8 (.eff 9 (.sil 10 (.sil 11 (.sil 12 (.sil 13 (.sil 14 (.sil 15 (.sil 16 .stop)))))))))))))))))),
  (39, 1, (.sil 0 (.sil 1 (.sil 3 (.sil 4 (.sil 6 (.sil 7 (.sil 8 (.sil 9 (.sil 10 (.eff 2 (.eff 5 (.eff 11 (.eff 12 (.eff 13 (.sil 14 .stop)))))))))))))))),
  (40, 4, (.sil 0 (.sil 1 (.sil 2 (.sil 4 (.sil 5 (.eff 3 (.eff 6 (.sil 7 .stop))))))))),
  (56, 6, (.sil 0 (.sil 1 (.sil 2 (.sil 3 (.sil 4 (.sil 5 (.sil 6 .stop)))))))),
  (56, 7, (.sil 0 (.sil 1 (.sil 2 (.sil 3 (.sil 4 (.sil 5 (.sil 6 (.eff 7 (.sil 8 .stop)))))))))),
  (56, 14, (.sil 0 (.sil 1 (.sil 2 (.sil 3 (.sil 4 (.sil 5 (.sil 6 (.sil 7 (.sil 8 (.sil 9 (.sil 10 .stop)))))))))))),
  (56, 31, (.sil 0 (.sil 1 (.sil 2 (.sil 3 (.sil 4 (.sil 5 (.sil 6 (.sil 7 (.sil 8 (.sil 9 (.sil 10 .stop))))))))))))]
def Tryd.lives : List (Nat × Nat × List (Nat × Nat)) := [
  (3, 7, [(1, 0), (2, 0), (3, 0), (4, 0), (5, 1), (6, 0)]),
  (8, 9, [(0, 1), (3, 0), (6, 3), (37, 1), (38, 0), (39, 0)]),
  (8, 14, [(0, 1), (3, 0), (51, 3), (52, 0), (53, 0)]),
  (11, 4, [(2, 0), (3, 0), (5, 0)]),
  (12, 6, [(0, 1000), (2, 162000), (3, 0), (4, 0)]),
  (15, 3, [(0, 3), (5, 0)]),
  (19, 3, [(0, 0), (3, 4), (4, 0)]),
  (26, 1, [(0, 0), (1, 0), (3, 0), (6, 0)]),
  (26, 18, [(1, 0), (3, 0), (6, 0), (48, 3), (49, 0), (50, 0)]),
  (35, 3, [(0, 1), (3, 0), (6, 1), (7, 0), (8, 0)]),
  (37, 1, [(0, 1), (2, 0), (3, 0)]),
  (41, 1, [(0, 0), (1, 0), (2, 0)]),
  (41, 17, [(1, 0), (2, 0), (43, 1), (44, 0), (45, 0)]),
  (42, 3, [(0, 1), (3, 0), (9, 1), (10, 0), (11, 0)]),
  (42, 12, [(6, 0), (26, 1), (27, 0), (28, 0)]),
  (44, 1, [(0, 0), (1, 0)]),
  (45, 1, [(0, 0), (1, 0)]),
  (46, 2, [(0, 0), (2, 0), (4, 0)]),
  (47, 1, [(0, 0), (1, 0)]),
  (48, 1, [(0, 0), (1, 0)]),
  (49, 1, [(0, 0), (1, 0)]),
  (50, 1, [(0, 0), (1, 0)]),
  (54, 10, [(0, 0), (4, 0), (5, 0), (6, 0)]),
  (56, 38, [(175, 0)])]
def Tryd.digs : List (Nat × Nat × List Dig) := [
]

def Tryd.nilszs : List (Nat × Nat) := [(9, 0), (15, 1), (16, 1), (28, 1)]
def Tryd.globs : List (Nat × AV) := [(0, .iface 86 (.agg [.raw (.pointer (some ⟨4, 43, none⟩))]))]
noncomputable def Tryd.phi : Phi := phi1 0 (.iface 86 (.agg #[.pointer (some ⟨4, 43, none⟩)]))
def Tryd.cfg : Cfg := { tab := Tryd.tab, live := fun f r => look2 [] Tryd.lives f r, opens := fun f => memN f [10, 12, 13, 17, 18, 19, 20, 21, 22, 23, 24, 25, 26, 32, 33, 86], fresh := fun f => memN f [9, 15, 16, 28], nilsz := fun f => (look1 Tryd.nilszs f).getD 0, plan := fun f r => look2 .stop Tryd.plans f r, glob := fun g => look1 Tryd.globs g }
def Tryd.X : Ctx := { cfg := Tryd.cfg, call := SoundCall Go.Proofs.Tryd.prog Tryd.phi, meth := IsMeth Go.Proofs.Tryd.prog, ta := Asserts Go.Proofs.Tryd.prog }
set_option maxRecDepth 100000
theorem Tryd.tabOk : tabB Go.Proofs.Tryd.prog Tryd.tab Tryd.tab = true := by kernel_rfl
theorem Tryd.mixed : Go.Proofs.Tryd.prog.follows .mixedOrders = true := by kernel_rfl
theorem Tryd.ok : CtxOk Go.Proofs.Tryd.prog Tryd.phi Tryd.X := ⟨tabB_ok Tryd.tabOk, fun _ _ _ _ h => h, fun _ _ _ _ h => h, fun _ _ _ h => h, Tryd.mixed, fun _ _ h => look1_one (Q := fun g v => R (phi1 0 (.iface 86 (.agg #[.pointer (some ⟨4, 43, none⟩)]))) m0 (.cptr v) (.pointer (some ⟨g, 0, none⟩))) (glob_hand (g := 0)) h⟩
noncomputable def Tryd.fns : List (Nat × Func) := [(2, Go.Proofs.Tryd.f2), (3, Go.Proofs.Tryd.f3), (4, Go.Proofs.Tryd.f4), (5, Go.Proofs.Tryd.f5), (6, Go.Proofs.Tryd.f6), (7, Go.Proofs.Tryd.f7), (8, Go.Proofs.Tryd.f8), (9, Go.Proofs.Tryd.f9), (10, Go.Proofs.Tryd.f10), (11, Go.Proofs.Tryd.f11), (12, Go.Proofs.Tryd.f12), (13, Go.Proofs.Tryd.f13), (14, Go.Proofs.Tryd.f14), (15, Go.Proofs.Tryd.f15), (16, Go.Proofs.Tryd.f16), (17, Go.Proofs.Tryd.f17), (18, Go.Proofs.Tryd.f18), (19, Go.Proofs.Tryd.f19), (20, Go.Proofs.Tryd.f20), (21, Go.Proofs.Tryd.f21), (22, Go.Proofs.Tryd.f22), (26, Go.Proofs.Tryd.f26), (27, Go.Proofs.Tryd.f27), (28, Go.Proofs.Tryd.f28), (29, Go.Proofs.Tryd.f29), (30, Go.Proofs.Tryd.f30), (34, Go.Proofs.Tryd.f34), (35, Go.Proofs.Tryd.f35), (36, Go.Proofs.Tryd.f36), (37, Go.Proofs.Tryd.f37), (38, Go.Proofs.Tryd.f38), (39, Go.Proofs.Tryd.f39), (40, Go.Proofs.Tryd.f40), (41, Go.Proofs.Tryd.f41), (42, Go.Proofs.Tryd.f42), (43, Go.Proofs.Tryd.f43), (44, Go.Proofs.Tryd.f44), (45, Go.Proofs.Tryd.f45), (46, Go.Proofs.Tryd.f46), (47, Go.Proofs.Tryd.f47), (48, Go.Proofs.Tryd.f48), (49, Go.Proofs.Tryd.f49), (50, Go.Proofs.Tryd.f50), (51, Go.Proofs.Tryd.f51), (52, Go.Proofs.Tryd.f52), (53, Go.Proofs.Tryd.f53), (54, Go.Proofs.Tryd.f54), (55, Go.Proofs.Tryd.f55), (56, Go.Proofs.Tryd.f56), (57, Go.Proofs.Tryd.f57), (58, Go.Proofs.Tryd.f58), (59, Go.Proofs.Tryd.f59), (60, Go.Proofs.Tryd.f60), (62, Go.Proofs.Tryd.f62), (84, Go.Proofs.Tryd.f84), (101, Go.Proofs.Tryd.f101), (106, Go.Proofs.Tryd.f106), (108, Go.Proofs.Tryd.f108), (110, Go.Proofs.Tryd.f110), (117, Go.Proofs.Tryd.f117)]
theorem Tryd.ok2 : fnB Tryd.cfg Tryd.digs 2 Go.Proofs.Tryd.f2 = true := by kernel_rfl
theorem Tryd.ok3 : fnB Tryd.cfg Tryd.digs 3 Go.Proofs.Tryd.f3 = true := by kernel_rfl
theorem Tryd.ok4 : fnB Tryd.cfg Tryd.digs 4 Go.Proofs.Tryd.f4 = true := by kernel_rfl
theorem Tryd.ok5 : fnB Tryd.cfg Tryd.digs 5 Go.Proofs.Tryd.f5 = true := by kernel_rfl
theorem Tryd.ok6 : fnB Tryd.cfg Tryd.digs 6 Go.Proofs.Tryd.f6 = true := by kernel_rfl
theorem Tryd.ok7 : fnB Tryd.cfg Tryd.digs 7 Go.Proofs.Tryd.f7 = true := by kernel_rfl
theorem Tryd.ok8 : fnB Tryd.cfg Tryd.digs 8 Go.Proofs.Tryd.f8 = true := by kernel_rfl
theorem Tryd.ok9 : fnB Tryd.cfg Tryd.digs 9 Go.Proofs.Tryd.f9 = true := by kernel_rfl
theorem Tryd.ok10 : fnB Tryd.cfg Tryd.digs 10 Go.Proofs.Tryd.f10 = true := by kernel_rfl
theorem Tryd.ok11 : fnB Tryd.cfg Tryd.digs 11 Go.Proofs.Tryd.f11 = true := by kernel_rfl
theorem Tryd.ok12 : fnB Tryd.cfg Tryd.digs 12 Go.Proofs.Tryd.f12 = true := by kernel_rfl
theorem Tryd.ok13 : fnB Tryd.cfg Tryd.digs 13 Go.Proofs.Tryd.f13 = true := by kernel_rfl
theorem Tryd.ok14 : fnB Tryd.cfg Tryd.digs 14 Go.Proofs.Tryd.f14 = true := by kernel_rfl
theorem Tryd.ok15 : fnB Tryd.cfg Tryd.digs 15 Go.Proofs.Tryd.f15 = true := by kernel_rfl
theorem Tryd.ok16 : fnB Tryd.cfg Tryd.digs 16 Go.Proofs.Tryd.f16 = true := by kernel_rfl
theorem Tryd.ok17 : fnB Tryd.cfg Tryd.digs 17 Go.Proofs.Tryd.f17 = true := by kernel_rfl
theorem Tryd.ok18 : fnB Tryd.cfg Tryd.digs 18 Go.Proofs.Tryd.f18 = true := by kernel_rfl
theorem Tryd.ok19 : fnB Tryd.cfg Tryd.digs 19 Go.Proofs.Tryd.f19 = true := by kernel_rfl
theorem Tryd.ok20 : fnB Tryd.cfg Tryd.digs 20 Go.Proofs.Tryd.f20 = true := by kernel_rfl
theorem Tryd.ok21 : fnB Tryd.cfg Tryd.digs 21 Go.Proofs.Tryd.f21 = true := by kernel_rfl
theorem Tryd.ok22 : fnB Tryd.cfg Tryd.digs 22 Go.Proofs.Tryd.f22 = true := by kernel_rfl
theorem Tryd.ok26 : fnB Tryd.cfg Tryd.digs 26 Go.Proofs.Tryd.f26 = true := by kernel_rfl
theorem Tryd.ok27 : fnB Tryd.cfg Tryd.digs 27 Go.Proofs.Tryd.f27 = true := by kernel_rfl
theorem Tryd.ok28 : fnB Tryd.cfg Tryd.digs 28 Go.Proofs.Tryd.f28 = true := by kernel_rfl
theorem Tryd.ok29 : fnB Tryd.cfg Tryd.digs 29 Go.Proofs.Tryd.f29 = true := by kernel_rfl
theorem Tryd.ok30 : fnB Tryd.cfg Tryd.digs 30 Go.Proofs.Tryd.f30 = true := by kernel_rfl
theorem Tryd.ok34 : fnB Tryd.cfg Tryd.digs 34 Go.Proofs.Tryd.f34 = true := by kernel_rfl
theorem Tryd.ok35 : fnB Tryd.cfg Tryd.digs 35 Go.Proofs.Tryd.f35 = true := by kernel_rfl
theorem Tryd.ok36 : fnB Tryd.cfg Tryd.digs 36 Go.Proofs.Tryd.f36 = true := by kernel_rfl
theorem Tryd.ok37 : fnB Tryd.cfg Tryd.digs 37 Go.Proofs.Tryd.f37 = true := by kernel_rfl
theorem Tryd.ok38 : fnB Tryd.cfg Tryd.digs 38 Go.Proofs.Tryd.f38 = true := by kernel_rfl
theorem Tryd.ok39 : fnB Tryd.cfg Tryd.digs 39 Go.Proofs.Tryd.f39 = true := by kernel_rfl
theorem Tryd.ok40 : fnB Tryd.cfg Tryd.digs 40 Go.Proofs.Tryd.f40 = true := by kernel_rfl
theorem Tryd.ok41 : fnB Tryd.cfg Tryd.digs 41 Go.Proofs.Tryd.f41 = true := by kernel_rfl
theorem Tryd.ok42 : fnB Tryd.cfg Tryd.digs 42 Go.Proofs.Tryd.f42 = true := by kernel_rfl
theorem Tryd.ok43 : fnB Tryd.cfg Tryd.digs 43 Go.Proofs.Tryd.f43 = true := by kernel_rfl
theorem Tryd.ok44 : fnB Tryd.cfg Tryd.digs 44 Go.Proofs.Tryd.f44 = true := by kernel_rfl
theorem Tryd.ok45 : fnB Tryd.cfg Tryd.digs 45 Go.Proofs.Tryd.f45 = true := by kernel_rfl
theorem Tryd.ok46 : fnB Tryd.cfg Tryd.digs 46 Go.Proofs.Tryd.f46 = true := by kernel_rfl
theorem Tryd.ok47 : fnB Tryd.cfg Tryd.digs 47 Go.Proofs.Tryd.f47 = true := by kernel_rfl
theorem Tryd.ok48 : fnB Tryd.cfg Tryd.digs 48 Go.Proofs.Tryd.f48 = true := by kernel_rfl
theorem Tryd.ok49 : fnB Tryd.cfg Tryd.digs 49 Go.Proofs.Tryd.f49 = true := by kernel_rfl
theorem Tryd.ok50 : fnB Tryd.cfg Tryd.digs 50 Go.Proofs.Tryd.f50 = true := by kernel_rfl
theorem Tryd.ok51 : fnB Tryd.cfg Tryd.digs 51 Go.Proofs.Tryd.f51 = true := by kernel_rfl
theorem Tryd.ok52 : fnB Tryd.cfg Tryd.digs 52 Go.Proofs.Tryd.f52 = true := by kernel_rfl
theorem Tryd.ok53 : fnB Tryd.cfg Tryd.digs 53 Go.Proofs.Tryd.f53 = true := by kernel_rfl
theorem Tryd.ok54 : fnB Tryd.cfg Tryd.digs 54 Go.Proofs.Tryd.f54 = true := by kernel_rfl
theorem Tryd.ok55 : fnB Tryd.cfg Tryd.digs 55 Go.Proofs.Tryd.f55 = true := by kernel_rfl
theorem Tryd.ok56 : fnB Tryd.cfg Tryd.digs 56 Go.Proofs.Tryd.f56 = true := by kernel_rfl
theorem Tryd.ok57 : fnB Tryd.cfg Tryd.digs 57 Go.Proofs.Tryd.f57 = true := by kernel_rfl
theorem Tryd.ok58 : fnB Tryd.cfg Tryd.digs 58 Go.Proofs.Tryd.f58 = true := by kernel_rfl
theorem Tryd.ok59 : fnB Tryd.cfg Tryd.digs 59 Go.Proofs.Tryd.f59 = true := by kernel_rfl
theorem Tryd.ok60 : fnB Tryd.cfg Tryd.digs 60 Go.Proofs.Tryd.f60 = true := by kernel_rfl
theorem Tryd.ok62 : fnB Tryd.cfg Tryd.digs 62 Go.Proofs.Tryd.f62 = true := by kernel_rfl
theorem Tryd.ok84 : fnB Tryd.cfg Tryd.digs 84 Go.Proofs.Tryd.f84 = true := by kernel_rfl
theorem Tryd.ok101 : fnB Tryd.cfg Tryd.digs 101 Go.Proofs.Tryd.f101 = true := by kernel_rfl
theorem Tryd.ok106 : fnB Tryd.cfg Tryd.digs 106 Go.Proofs.Tryd.f106 = true := by kernel_rfl
theorem Tryd.ok108 : fnB Tryd.cfg Tryd.digs 108 Go.Proofs.Tryd.f108 = true := by kernel_rfl
theorem Tryd.ok110 : fnB Tryd.cfg Tryd.digs 110 Go.Proofs.Tryd.f110 = true := by kernel_rfl
theorem Tryd.ok117 : fnB Tryd.cfg Tryd.digs 117 Go.Proofs.Tryd.f117 = true := by kernel_rfl
theorem Tryd.fnsOk : FnsOk Go.Proofs.Tryd.prog Tryd.cfg Tryd.digs Tryd.fns := ⟨Go.Proofs.Tryd.func2, Tryd.ok2, Go.Proofs.Tryd.func3, Tryd.ok3, Go.Proofs.Tryd.func4, Tryd.ok4, Go.Proofs.Tryd.func5, Tryd.ok5, Go.Proofs.Tryd.func6, Tryd.ok6, Go.Proofs.Tryd.func7, Tryd.ok7, Go.Proofs.Tryd.func8, Tryd.ok8, Go.Proofs.Tryd.func9, Tryd.ok9, Go.Proofs.Tryd.func10, Tryd.ok10, Go.Proofs.Tryd.func11, Tryd.ok11, Go.Proofs.Tryd.func12, Tryd.ok12, Go.Proofs.Tryd.func13, Tryd.ok13, Go.Proofs.Tryd.func14, Tryd.ok14, Go.Proofs.Tryd.func15, Tryd.ok15, Go.Proofs.Tryd.func16, Tryd.ok16, Go.Proofs.Tryd.func17, Tryd.ok17, Go.Proofs.Tryd.func18, Tryd.ok18, Go.Proofs.Tryd.func19, Tryd.ok19, Go.Proofs.Tryd.func20, Tryd.ok20, Go.Proofs.Tryd.func21, Tryd.ok21, Go.Proofs.Tryd.func22, Tryd.ok22, Go.Proofs.Tryd.func26, Tryd.ok26, Go.Proofs.Tryd.func27, Tryd.ok27, Go.Proofs.Tryd.func28, Tryd.ok28, Go.Proofs.Tryd.func29, Tryd.ok29, Go.Proofs.Tryd.func30, Tryd.ok30, Go.Proofs.Tryd.func34, Tryd.ok34, Go.Proofs.Tryd.func35, Tryd.ok35, Go.Proofs.Tryd.func36, Tryd.ok36, Go.Proofs.Tryd.func37, Tryd.ok37, Go.Proofs.Tryd.func38, Tryd.ok38, Go.Proofs.Tryd.func39, Tryd.ok39, Go.Proofs.Tryd.func40, Tryd.ok40, Go.Proofs.Tryd.func41, Tryd.ok41, Go.Proofs.Tryd.func42, Tryd.ok42, Go.Proofs.Tryd.func43, Tryd.ok43, Go.Proofs.Tryd.func44, Tryd.ok44, Go.Proofs.Tryd.func45, Tryd.ok45, Go.Proofs.Tryd.func46, Tryd.ok46, Go.Proofs.Tryd.func47, Tryd.ok47, Go.Proofs.Tryd.func48, Tryd.ok48, Go.Proofs.Tryd.func49, Tryd.ok49, Go.Proofs.Tryd.func50, Tryd.ok50, Go.Proofs.Tryd.func51, Tryd.ok51, Go.Proofs.Tryd.func52, Tryd.ok52, Go.Proofs.Tryd.func53, Tryd.ok53, Go.Proofs.Tryd.func54, Tryd.ok54, Go.Proofs.Tryd.func55, Tryd.ok55, Go.Proofs.Tryd.func56, Tryd.ok56, Go.Proofs.Tryd.func57, Tryd.ok57, Go.Proofs.Tryd.func58, Tryd.ok58, Go.Proofs.Tryd.func59, Tryd.ok59, Go.Proofs.Tryd.func60, Tryd.ok60, Go.Proofs.Tryd.func62, Tryd.ok62, Go.Proofs.Tryd.func84, Tryd.ok84, Go.Proofs.Tryd.func101, Tryd.ok101, Go.Proofs.Tryd.func106, Tryd.ok106, Go.Proofs.Tryd.func108, Tryd.ok108, Go.Proofs.Tryd.func110, Tryd.ok110, Go.Proofs.Tryd.func117, Tryd.ok117, trivial⟩
end Go.Ab
