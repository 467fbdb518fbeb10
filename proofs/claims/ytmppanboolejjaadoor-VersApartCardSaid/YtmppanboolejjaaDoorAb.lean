/- The seat's program: its types, plans, what lives at loops' heads; the context. Printed by mkseat.py. -/
import Derived.Test.YtmppanboolejjaaDoorAbSeat
import Derived.Test.YtmppanboolejjaaDoorProg
import Derived.KernelRfl
namespace Go.Ab
open Go Go.Proofs
def Tryd.tab : Tab := [
  (0, ⟨1, false, .other, [], none, 0, false⟩),
  (1, ⟨1, false, .other, [], (some (.nilf)), 8, false⟩),
  (2, ⟨1, false, (.int .i64), [], (some (.int .i64 0)), 8, true⟩),
  (3, ⟨1, false, (.int .i64), [], (some (.int .i64 0)), 8, true⟩),
  (4, ⟨1, false, .bool, [], (some (.bool false)), 1, true⟩),
  (5, ⟨1, false, (.int .u8), [], (some (.int .u8 0)), 1, true⟩),
  (6, ⟨1, false, (.int .u8), [], (some (.int .u8 0)), 1, true⟩),
  (7, ⟨4, true, .struct, [(0, 2), (1, 3), (2, 4), (3, 6)], (some (.agg [.int .i64 0, .int .i64 0, .bool false, .int .u8 0])), 24, true⟩),
  (8, ⟨4, true, .struct, [(0, 2), (1, 3), (2, 4), (3, 6)], (some (.agg [.int .i64 0, .int .i64 0, .bool false, .int .u8 0])), 24, true⟩),
  (9, ⟨1, false, .string, [], (some (.str [])), 16, true⟩),
  (10, ⟨1, false, .string, [], (some (.str [])), 16, true⟩),
  (11, ⟨1, false, .string, [], (some (.str [])), 16, true⟩),
  (12, ⟨1, false, (.int .u64), [], (some (.int .u64 0)), 8, true⟩),
  (13, ⟨2, true, .struct, [(0, 9), (1, 12)], (some (.agg [.str [], .int .u64 0])), 24, false⟩),
  (14, ⟨2, true, .struct, [(0, 9), (1, 12)], (some (.agg [.str [], .int .u64 0])), 24, false⟩),
  (15, ⟨1, false, (.pointer 132), [], (some (.nilp)), 8, true⟩),
  (16, ⟨1, false, (.pointer 135), [], (some (.nilp)), 8, true⟩),
  (17, ⟨1, false, (.pointer 145), [], (some (.nilp)), 8, true⟩),
  (18, ⟨1, true, .struct, [(0, 17)], (some (.agg [.nilp])), 8, false⟩),
  (19, ⟨1, true, .struct, [(0, 17)], (some (.agg [.nilp])), 8, false⟩),
  (20, ⟨1, false, .iface, [], (some (.nili)), 16, true⟩),
  (21, ⟨1, false, (.int .i32), [], (some (.int .i32 0)), 4, true⟩),
  (22, ⟨1, false, .other, [], (some (.nilf)), 8, false⟩),
  (23, ⟨3, true, .struct, [(0, 3), (1, 3), (2, 3)], (some (.agg [.int .i64 0, .int .i64 0, .int .i64 0])), 24, true⟩),
  (24, ⟨3, true, .struct, [(0, 3), (1, 3), (2, 3)], (some (.agg [.int .i64 0, .int .i64 0, .int .i64 0])), 24, true⟩),
  (25, ⟨1, false, (.slice 29), [], (some (.nils)), 24, false⟩),
  (26, ⟨8, true, .struct, [(0, 3), (1, 24), (4, 4), (5, 25), (6, 9), (7, 9)], (some (.agg [.int .i64 0, .int .i64 0, .int .i64 0, .int .i64 0, .bool false, .nils, .str [], .str []])), 96, false⟩),
  (27, ⟨8, true, .struct, [(0, 3), (1, 24), (4, 4), (5, 25), (6, 9), (7, 9)], (some (.agg [.int .i64 0, .int .i64 0, .int .i64 0, .int .i64 0, .bool false, .nils, .str [], .str []])), 96, false⟩),
  (28, ⟨2, true, .struct, [(0, 3), (1, 3)], (some (.agg [.int .i64 0, .int .i64 0])), 16, true⟩),
  (29, ⟨2, true, .struct, [(0, 3), (1, 3)], (some (.agg [.int .i64 0, .int .i64 0])), 16, true⟩),
  (30, ⟨1, false, (.slice 27), [], (some (.nils)), 24, false⟩),
  (31, ⟨1, false, .other, [], (some (.nilf)), 8, false⟩),
  (32, ⟨1, false, (.slice 5), [], (some (.nils)), 24, false⟩),
  (33, ⟨1, false, (.pointer 48), [], (some (.nilp)), 8, true⟩),
  (34, ⟨1, false, .other, [], (some (.nilf)), 8, false⟩),
  (35, ⟨1, false, .other, [], (some (.nilf)), 8, false⟩),
  (36, ⟨1, false, .other, [], (some (.nilf)), 8, false⟩),
  (37, ⟨1, false, .other, [], (some (.nilf)), 8, false⟩),
  (38, ⟨1, false, .other, [], (some (.nilf)), 8, false⟩),
  (39, ⟨1, false, .other, [], none, 0, false⟩),
  (40, ⟨1, false, .other, [], (some (.nilf)), 8, false⟩),
  (41, ⟨1, false, (.pointer 71), [], (some (.nilp)), 8, true⟩),
  (42, ⟨1, false, .other, [], (some (.nilf)), 8, false⟩),
  (43, ⟨1, false, .iface, [], (some (.nili)), 16, true⟩),
  (44, ⟨1, false, .iface, [], (some (.nili)), 16, true⟩),
  (45, ⟨1, false, .other, [], (some (.nilf)), 8, false⟩),
  (46, ⟨1, false, (.pointer 41), [], (some (.nilp)), 8, true⟩),
  (47, ⟨2, true, .struct, [(0, 32), (1, 3)], (some (.agg [.nils, .int .i64 0])), 32, false⟩),
  (48, ⟨2, true, .struct, [(0, 32), (1, 3)], (some (.agg [.nils, .int .i64 0])), 32, false⟩),
  (49, ⟨1, false, .other, [], (some (.nilf)), 8, false⟩),
  (50, ⟨1, false, .other, [], (some (.nilf)), 8, false⟩),
  (51, ⟨1, false, .other, [], (some (.nilf)), 8, false⟩),
  (52, ⟨1, false, .other, [], (some (.nilf)), 8, false⟩),
  (53, ⟨1, false, (.slice 9), [], (some (.nils)), 24, false⟩),
  (54, ⟨1, false, .other, [], (some (.nilf)), 8, false⟩),
  (55, ⟨1, false, .other, [], (some (.nilf)), 8, false⟩),
  (56, ⟨1, false, .other, [], (some (.nilf)), 8, false⟩),
  (57, ⟨1, false, .other, [], (some (.nilf)), 8, false⟩),
  (58, ⟨1, false, .other, [], (some (.nilp)), 8, true⟩),
  (59, ⟨1, false, (.int .u64), [], (some (.int .u64 0)), 8, true⟩),
  (60, ⟨3, true, .struct, [(0, 17), (1, 58), (2, 59)], (some (.agg [.nilp, .nilp, .int .u64 0])), 24, false⟩),
  (61, ⟨3, true, .struct, [(0, 17), (1, 58), (2, 59)], (some (.agg [.nilp, .nilp, .int .u64 0])), 24, false⟩),
  (62, ⟨1, false, .other, [], (some (.nilf)), 8, false⟩),
  (63, ⟨1, false, .iface, [], (some (.nili)), 16, true⟩),
  (64, ⟨1, false, .iface, [], (some (.nili)), 16, true⟩),
  (65, ⟨1, false, .other, [], (some (.nilf)), 8, false⟩),
  (66, ⟨1, false, (.int .u8), [], (some (.int .u8 0)), 1, true⟩),
  (67, ⟨1, false, .other, [], (some (.nilf)), 8, false⟩),
  (68, ⟨1, false, .other, [], (some (.nilf)), 8, false⟩),
  (69, ⟨1, false, .other, [], (some (.nilf)), 8, false⟩),
  (70, ⟨1, true, .struct, [(0, 9)], (some (.agg [.str []])), 16, true⟩),
  (71, ⟨1, true, .struct, [(0, 9)], (some (.agg [.str []])), 16, true⟩),
  (72, ⟨1, true, .struct, [(0, 44)], (some (.agg [.nili])), 16, false⟩),
  (73, ⟨1, true, .struct, [(0, 44)], (some (.agg [.nili])), 16, false⟩),
  (74, ⟨1, false, .other, [], (some (.nilf)), 8, false⟩),
  (75, ⟨1, false, .other, [], (some (.nilf)), 8, false⟩),
  (76, ⟨1, false, .other, [], (some (.nilf)), 8, false⟩),
  (77, ⟨1, false, (.slice 3), [], (some (.nils)), 24, false⟩),
  (78, ⟨1, false, .other, [], (some (.nilf)), 8, false⟩),
  (79, ⟨1, false, .other, [], (some (.nilf)), 8, false⟩),
  (80, ⟨1, true, .struct, [(0, 17)], (some (.agg [.nilp])), 8, false⟩),
  (81, ⟨1, true, .struct, [(0, 17)], (some (.agg [.nilp])), 8, false⟩),
  (82, ⟨1, false, (.pointer 149), [], (some (.nilp)), 8, true⟩),
  (83, ⟨1, false, .other, [], (some (.nilf)), 8, false⟩),
  (84, ⟨1, false, .other, [], (some (.nilf)), 8, false⟩),
  (85, ⟨1, false, .other, [], (some (.nilf)), 8, false⟩),
  (86, ⟨1, false, .iface, [], (some (.nili)), 16, true⟩),
  (87, ⟨1, false, .other, [], none, 0, false⟩),
  (88, ⟨1, false, .other, [], (some (.nilf)), 8, false⟩),
  (89, ⟨1, false, .iface, [], (some (.nili)), 16, true⟩),
  (90, ⟨1, false, .other, [], (some (.nilf)), 8, false⟩),
  (91, ⟨1, false, .iface, [], (some (.nili)), 16, true⟩),
  (92, ⟨1, false, (.slice 44), [], (some (.nils)), 24, false⟩),
  (93, ⟨1, false, .other, [], (some (.nilf)), 8, false⟩),
  (94, ⟨1, false, .other, [], (some (.nilf)), 8, false⟩),
  (95, ⟨1, false, .other, [], (some (.nilf)), 8, false⟩),
  (96, ⟨0, true, .struct, [], (some (.agg [])), 0, true⟩),
  (97, ⟨0, true, .struct, [], (some (.agg [])), 0, true⟩),
  (98, ⟨1, false, .other, [], (some (.nilf)), 8, false⟩),
  (99, ⟨1, false, .other, [], (some (.nilf)), 8, false⟩),
  (100, ⟨1, false, .other, [], (some (.nilf)), 8, false⟩),
  (101, ⟨1, false, .other, [], (some (.nilf)), 8, false⟩),
  (102, ⟨1, false, .other, [], (some (.nilf)), 8, false⟩),
  (103, ⟨1, false, .other, [], (some (.nilf)), 8, false⟩),
  (104, ⟨256, true, (.array 256 4), [], (some (.agg [.bool false, .bool false, .bool false, .bool false, .bool false, .bool false, .bool false, .bool false, .bool false, .bool false, .bool false, .bool false, .bool false, .bool false, .bool false, .bool false, .bool false, .bool false, .bool false, .bool false, .bool false, .bool false, .bool false, .bool false, .bool false, .bool false, .bool false, .bool false, .bool false, .bool false, .bool false, .bool false, .bool false, .bool false, .bool false, .bool false, .bool false, .bool false, .bool false, .bool false, .bool false, .bool false, .bool false, .bool false, .bool false, .bool false, .bool false, .bool false, .bool false, .bool false, .bool false, .bool false, .bool false, .bool false, .bool false, .bool false, .bool false, .bool false, .bool false, .bool false, .bool false, .bool false, .bool false, .bool false, .bool false, .bool false, .bool false, .bool false, .bool false, .bool false, .bool false, .bool false, .bool false, .bool false, .bool false, .bool false, .bool false, .bool false, .bool false, .bool false, .bool false, .bool false, .bool false, .bool false, .bool false, .bool false, .bool false, .bool false, .bool false, .bool false, .bool false, .bool false, .bool false, .bool false, .bool false, .bool false, .bool false, .bool false, .bool false, .bool false, .bool false, .bool false, .bool false, .bool false, .bool false, .bool false, .bool false, .bool false, .bool false, .bool false, .bool false, .bool false, .bool false, .bool false, .bool false, .bool false, .bool false, .bool false, .bool false, .bool false, .bool false, .bool false, .bool false, .bool false, .bool false, .bool false, .bool false, .bool false, .bool false, .bool false, .bool false, .bool false, .bool false, .bool false, .bool false, .bool false, .bool false, .bool false, .bool false, .bool false, .bool false, .bool false, .bool false, .bool false, .bool false, .bool false, .bool false, .bool false, .bool false, .bool false, .bool false, .bool false, .bool false, .bool false, .bool false, .bool false, .bool false, .bool false, .bool false, .bool false, .bool false, .bool false, .bool false, .bool false, .bool false, .bool false, .bool false, .bool false, .bool false, .bool false, .bool false, .bool false, .bool false, .bool false, .bool false, .bool false, .bool false, .bool false, .bool false, .bool false, .bool false, .bool false, .bool false, .bool false, .bool false, .bool false, .bool false, .bool false, .bool false, .bool false, .bool false, .bool false, .bool false, .bool false, .bool false, .bool false, .bool false, .bool false, .bool false, .bool false, .bool false, .bool false, .bool false, .bool false, .bool false, .bool false, .bool false, .bool false, .bool false, .bool false, .bool false, .bool false, .bool false, .bool false, .bool false, .bool false, .bool false, .bool false, .bool false, .bool false, .bool false, .bool false, .bool false, .bool false, .bool false, .bool false, .bool false, .bool false, .bool false, .bool false, .bool false, .bool false, .bool false, .bool false, .bool false, .bool false, .bool false, .bool false, .bool false, .bool false, .bool false, .bool false, .bool false, .bool false, .bool false, .bool false, .bool false, .bool false, .bool false, .bool false, .bool false, .bool false, .bool false, .bool false, .bool false, .bool false])), 256, true⟩),
  (105, ⟨256, true, (.array 256 4), [], (some (.agg [.bool false, .bool false, .bool false, .bool false, .bool false, .bool false, .bool false, .bool false, .bool false, .bool false, .bool false, .bool false, .bool false, .bool false, .bool false, .bool false, .bool false, .bool false, .bool false, .bool false, .bool false, .bool false, .bool false, .bool false, .bool false, .bool false, .bool false, .bool false, .bool false, .bool false, .bool false, .bool false, .bool false, .bool false, .bool false, .bool false, .bool false, .bool false, .bool false, .bool false, .bool false, .bool false, .bool false, .bool false, .bool false, .bool false, .bool false, .bool false, .bool false, .bool false, .bool false, .bool false, .bool false, .bool false, .bool false, .bool false, .bool false, .bool false, .bool false, .bool false, .bool false, .bool false, .bool false, .bool false, .bool false, .bool false, .bool false, .bool false, .bool false, .bool false, .bool false, .bool false, .bool false, .bool false, .bool false, .bool false, .bool false, .bool false, .bool false, .bool false, .bool false, .bool false, .bool false, .bool false, .bool false, .bool false, .bool false, .bool false, .bool false, .bool false, .bool false, .bool false, .bool false, .bool false, .bool false, .bool false, .bool false, .bool false, .bool false, .bool false, .bool false, .bool false, .bool false, .bool false, .bool false, .bool false, .bool false, .bool false, .bool false, .bool false, .bool false, .bool false, .bool false, .bool false, .bool false, .bool false, .bool false, .bool false, .bool false, .bool false, .bool false, .bool false, .bool false, .bool false, .bool false, .bool false, .bool false, .bool false, .bool false, .bool false, .bool false, .bool false, .bool false, .bool false, .bool false, .bool false, .bool false, .bool false, .bool false, .bool false, .bool false, .bool false, .bool false, .bool false, .bool false, .bool false, .bool false, .bool false, .bool false, .bool false, .bool false, .bool false, .bool false, .bool false, .bool false, .bool false, .bool false, .bool false, .bool false, .bool false, .bool false, .bool false, .bool false, .bool false, .bool false, .bool false, .bool false, .bool false, .bool false, .bool false, .bool false, .bool false, .bool false, .bool false, .bool false, .bool false, .bool false, .bool false, .bool false, .bool false, .bool false, .bool false, .bool false, .bool false, .bool false, .bool false, .bool false, .bool false, .bool false, .bool false, .bool false, .bool false, .bool false, .bool false, .bool false, .bool false, .bool false, .bool false, .bool false, .bool false, .bool false, .bool false, .bool false, .bool false, .bool false, .bool false, .bool false, .bool false, .bool false, .bool false, .bool false, .bool false, .bool false, .bool false, .bool false, .bool false, .bool false, .bool false, .bool false, .bool false, .bool false, .bool false, .bool false, .bool false, .bool false, .bool false, .bool false, .bool false, .bool false, .bool false, .bool false, .bool false, .bool false, .bool false, .bool false, .bool false, .bool false, .bool false, .bool false, .bool false, .bool false, .bool false, .bool false, .bool false, .bool false, .bool false, .bool false, .bool false, .bool false, .bool false, .bool false, .bool false, .bool false, .bool false, .bool false, .bool false])), 256, true⟩),
  (106, ⟨1, false, .other, [], none, 0, false⟩),
  (107, ⟨1, false, .other, [], (some (.nilf)), 8, false⟩),
  (108, ⟨1, false, .other, [], (some (.nilf)), 8, false⟩),
  (109, ⟨1, false, (.pointer 105), [], (some (.nilp)), 8, true⟩),
  (110, ⟨1, false, .iface, [], (some (.nili)), 16, true⟩),
  (111, ⟨1, false, .other, [], none, 0, false⟩),
  (112, ⟨1, false, .other, [], (some (.nilf)), 8, false⟩),
  (113, ⟨1, false, (.pointer 115), [], (some (.nilp)), 8, true⟩),
  (114, ⟨1, true, .struct, [(0, 92)], (some (.agg [.nils])), 24, false⟩),
  (115, ⟨1, true, .struct, [(0, 92)], (some (.agg [.nils])), 24, false⟩),
  (116, ⟨2, true, .struct, [(0, 9), (1, 44)], (some (.agg [.str [], .nili])), 32, false⟩),
  (117, ⟨2, true, .struct, [(0, 9), (1, 44)], (some (.agg [.str [], .nili])), 32, false⟩),
  (118, ⟨1, false, .other, [], (some (.nilf)), 8, false⟩),
  (119, ⟨1, false, .other, [], none, 0, false⟩),
  (120, ⟨1, false, .other, [], (some (.nilf)), 8, false⟩),
  (121, ⟨1, false, .other, [], (some (.nilf)), 8, false⟩),
  (122, ⟨1, false, .other, [], (some (.nilf)), 8, false⟩),
  (123, ⟨256, true, (.array 256 5), [], (some (.agg [.int .u8 0, .int .u8 0, .int .u8 0, .int .u8 0, .int .u8 0, .int .u8 0, .int .u8 0, .int .u8 0, .int .u8 0, .int .u8 0, .int .u8 0, .int .u8 0, .int .u8 0, .int .u8 0, .int .u8 0, .int .u8 0, .int .u8 0, .int .u8 0, .int .u8 0, .int .u8 0, .int .u8 0, .int .u8 0, .int .u8 0, .int .u8 0, .int .u8 0, .int .u8 0, .int .u8 0, .int .u8 0, .int .u8 0, .int .u8 0, .int .u8 0, .int .u8 0, .int .u8 0, .int .u8 0, .int .u8 0, .int .u8 0, .int .u8 0, .int .u8 0, .int .u8 0, .int .u8 0, .int .u8 0, .int .u8 0, .int .u8 0, .int .u8 0, .int .u8 0, .int .u8 0, .int .u8 0, .int .u8 0, .int .u8 0, .int .u8 0, .int .u8 0, .int .u8 0, .int .u8 0, .int .u8 0, .int .u8 0, .int .u8 0, .int .u8 0, .int .u8 0, .int .u8 0, .int .u8 0, .int .u8 0, .int .u8 0, .int .u8 0, .int .u8 0, .int .u8 0, .int .u8 0, .int .u8 0, .int .u8 0, .int .u8 0, .int .u8 0, .int .u8 0, .int .u8 0, .int .u8 0, .int .u8 0, .int .u8 0, .int .u8 0, .int .u8 0, .int .u8 0, .int .u8 0, .int .u8 0, .int .u8 0, .int .u8 0, .int .u8 0, .int .u8 0, .int .u8 0, .int .u8 0, .int .u8 0, .int .u8 0, .int .u8 0, .int .u8 0, .int .u8 0, .int .u8 0, .int .u8 0, .int .u8 0, .int .u8 0, .int .u8 0, .int .u8 0, .int .u8 0, .int .u8 0, .int .u8 0, .int .u8 0, .int .u8 0, .int .u8 0, .int .u8 0, .int .u8 0, .int .u8 0, .int .u8 0, .int .u8 0, .int .u8 0, .int .u8 0, .int .u8 0, .int .u8 0, .int .u8 0, .int .u8 0, .int .u8 0, .int .u8 0, .int .u8 0, .int .u8 0, .int .u8 0, .int .u8 0, .int .u8 0, .int .u8 0, .int .u8 0, .int .u8 0, .int .u8 0, .int .u8 0, .int .u8 0, .int .u8 0, .int .u8 0, .int .u8 0, .int .u8 0, .int .u8 0, .int .u8 0, .int .u8 0, .int .u8 0, .int .u8 0, .int .u8 0, .int .u8 0, .int .u8 0, .int .u8 0, .int .u8 0, .int .u8 0, .int .u8 0, .int .u8 0, .int .u8 0, .int .u8 0, .int .u8 0, .int .u8 0, .int .u8 0, .int .u8 0, .int .u8 0, .int .u8 0, .int .u8 0, .int .u8 0, .int .u8 0, .int .u8 0, .int .u8 0, .int .u8 0, .int .u8 0, .int .u8 0, .int .u8 0, .int .u8 0, .int .u8 0, .int .u8 0, .int .u8 0, .int .u8 0, .int .u8 0, .int .u8 0, .int .u8 0, .int .u8 0, .int .u8 0, .int .u8 0, .int .u8 0, .int .u8 0, .int .u8 0, .int .u8 0, .int .u8 0, .int .u8 0, .int .u8 0, .int .u8 0, .int .u8 0, .int .u8 0, .int .u8 0, .int .u8 0, .int .u8 0, .int .u8 0, .int .u8 0, .int .u8 0, .int .u8 0, .int .u8 0, .int .u8 0, .int .u8 0, .int .u8 0, .int .u8 0, .int .u8 0, .int .u8 0, .int .u8 0, .int .u8 0, .int .u8 0, .int .u8 0, .int .u8 0, .int .u8 0, .int .u8 0, .int .u8 0, .int .u8 0, .int .u8 0, .int .u8 0, .int .u8 0, .int .u8 0, .int .u8 0, .int .u8 0, .int .u8 0, .int .u8 0, .int .u8 0, .int .u8 0, .int .u8 0, .int .u8 0, .int .u8 0, .int .u8 0, .int .u8 0, .int .u8 0, .int .u8 0, .int .u8 0, .int .u8 0, .int .u8 0, .int .u8 0, .int .u8 0, .int .u8 0, .int .u8 0, .int .u8 0, .int .u8 0, .int .u8 0, .int .u8 0, .int .u8 0, .int .u8 0, .int .u8 0, .int .u8 0, .int .u8 0, .int .u8 0, .int .u8 0, .int .u8 0, .int .u8 0, .int .u8 0, .int .u8 0, .int .u8 0, .int .u8 0, .int .u8 0, .int .u8 0, .int .u8 0, .int .u8 0, .int .u8 0, .int .u8 0, .int .u8 0, .int .u8 0, .int .u8 0, .int .u8 0])), 256, true⟩),
  (124, ⟨1, false, (.int .u64), [], (some (.int .u64 0)), 8, true⟩),
  (125, ⟨2, true, .struct, [(0, 5), (1, 5)], (some (.agg [.int .u8 0, .int .u8 0])), 2, true⟩),
  (126, ⟨2, true, .struct, [(0, 5), (1, 5)], (some (.agg [.int .u8 0, .int .u8 0])), 2, true⟩),
  (127, ⟨32, true, (.array 16 126), [(0, 126), (2, 126), (4, 126), (6, 126), (8, 126), (10, 126), (12, 126), (14, 126), (16, 126), (18, 126), (20, 126), (22, 126), (24, 126), (26, 126), (28, 126), (30, 126)], (some (.agg [.int .u8 0, .int .u8 0, .int .u8 0, .int .u8 0, .int .u8 0, .int .u8 0, .int .u8 0, .int .u8 0, .int .u8 0, .int .u8 0, .int .u8 0, .int .u8 0, .int .u8 0, .int .u8 0, .int .u8 0, .int .u8 0, .int .u8 0, .int .u8 0, .int .u8 0, .int .u8 0, .int .u8 0, .int .u8 0, .int .u8 0, .int .u8 0, .int .u8 0, .int .u8 0, .int .u8 0, .int .u8 0, .int .u8 0, .int .u8 0, .int .u8 0, .int .u8 0])), 32, true⟩),
  (128, ⟨1, false, .other, [], (some (.nilf)), 8, false⟩),
  (129, ⟨1, false, .other, [], (some (.nilf)), 8, false⟩),
  (130, ⟨1, false, .other, [], (some (.nilf)), 8, false⟩),
  (131, ⟨4, true, .struct, [(0, 17), (1, 17), (2, 17), (3, 9)], (some (.agg [.nilp, .nilp, .nilp, .str []])), 40, false⟩),
  (132, ⟨4, true, .struct, [(0, 17), (1, 17), (2, 17), (3, 9)], (some (.agg [.nilp, .nilp, .nilp, .str []])), 40, false⟩),
  (133, ⟨0, true, (.array 0 16), [], (some (.agg [])), 0, true⟩),
  (134, ⟨0, true, .struct, [(0, 133)], (some (.agg [])), 0, false⟩),
  (135, ⟨0, true, .struct, [(0, 133)], (some (.agg [])), 0, false⟩),
  (136, ⟨1, false, .other, [], (some (.nilf)), 8, false⟩),
  (137, ⟨1, false, .other, [], (some (.nilf)), 8, false⟩),
  (138, ⟨1, false, (.int .u32), [], (some (.int .u32 0)), 4, true⟩),
  (139, ⟨1, false, (.int .u8), [], (some (.int .u8 0)), 1, true⟩),
  (140, ⟨1, false, .other, [], (some (.nilf)), 8, false⟩),
  (141, ⟨1, false, (.pointer 5), [], (some (.nilp)), 8, true⟩),
  (142, ⟨1, false, (.int .i32), [], (some (.int .i32 0)), 4, true⟩),
  (143, ⟨1, false, (.int .i32), [], (some (.int .i32 0)), 4, true⟩),
  (144, ⟨11, true, .struct, [(0, 12), (1, 12), (2, 138), (3, 139), (4, 5), (5, 5), (6, 66), (7, 140), (8, 141), (9, 142), (10, 143)], (some (.agg [.int .u64 0, .int .u64 0, .int .u32 0, .int .u8 0, .int .u8 0, .int .u8 0, .int .u8 0, .nilf, .nilp, .int .i32 0, .int .i32 0])), 48, false⟩),
  (145, ⟨11, true, .struct, [(0, 12), (1, 12), (2, 138), (3, 139), (4, 5), (5, 5), (6, 66), (7, 140), (8, 141), (9, 142), (10, 143)], (some (.agg [.int .u64 0, .int .u64 0, .int .u32 0, .int .u8 0, .int .u8 0, .int .u8 0, .int .u8 0, .nilf, .nilp, .int .i32 0, .int .i32 0])), 48, false⟩),
  (146, ⟨1, false, .other, [], (some (.nilf)), 8, false⟩),
  (147, ⟨1, false, .other, [], (some (.nilf)), 8, false⟩),
  (148, ⟨2, true, .struct, [(0, 9), (1, 66)], (some (.agg [.str [], .int .u8 0])), 24, false⟩),
  (149, ⟨2, true, .struct, [(0, 9), (1, 66)], (some (.agg [.str [], .int .u8 0])), 24, false⟩),
  (150, ⟨1, false, (.pointer 154), [], (some (.nilp)), 8, true⟩),
  (151, ⟨1, false, .other, [], (some (.nilf)), 8, false⟩),
  (152, ⟨1, false, (.int .u16), [], (some (.int .u16 0)), 2, true⟩),
  (153, ⟨5, true, .struct, [(0, 142), (1, 152), (2, 152), (3, 138), (4, 138)], (some (.agg [.int .i32 0, .int .u16 0, .int .u16 0, .int .u32 0, .int .u32 0])), 16, false⟩),
  (154, ⟨5, true, .struct, [(0, 142), (1, 152), (2, 152), (3, 138), (4, 138)], (some (.agg [.int .i32 0, .int .u16 0, .int .u16 0, .int .u32 0, .int .u32 0])), 16, false⟩),
  (155, ⟨1, false, (.slice 158), [], (some (.nils)), 24, false⟩),
  (156, ⟨1, false, (.int .i32), [], (some (.int .i32 0)), 4, true⟩),
  (157, ⟨4, true, .struct, [(0, 142), (1, 143), (2, 156), (3, 156)], (some (.agg [.int .i32 0, .int .i32 0, .int .i32 0, .int .i32 0])), 16, false⟩),
  (158, ⟨4, true, .struct, [(0, 142), (1, 143), (2, 156), (3, 156)], (some (.agg [.int .i32 0, .int .i32 0, .int .i32 0, .int .i32 0])), 16, false⟩),
  (159, ⟨1, false, (.pointer 44), [], (some (.nilp)), 8, true⟩)]
def Tryd.plans : List (Nat × Nat × Plan) := [
  (4, 7, (.sil 0 (.sil 1 (.sil 3 (.sil 4 (.eff 2 (.eff 5 (.sil 6 (.sil 7 .stop))))))))),
  (4, 8, (.sil 0 (.sil 1 (.sil 2 (.sil 3 (.sil 4 (.sil 5 (.sil 6 (.sil 7 (.sil 8 (.sil 9 (.sil 10 (.sil 11 (.sil 12 (.sil 13 (.sil 14 (.sil 15 (.sil 16 (.sil 17 (.sil 18 (.sil 19 (.eff 20 (.sil 21 (.sil 22 (.sil 23 (.sil 24 (.eff 25 (.sil 26 (.sil 27 (.sil 28 (.sil 29 (.sil 30 (.eff 31 (.sil 32 (.sil 33 (.sil 34 (.sil 35 (.sil 36 (.eff 37 (.sil 38 (.sil 39 (.sil 40 (.sil 41 (.sil 42 (.sil 44 (.sil 45 (.eff 43 (.eff 46 (.sil 47 (.sil 48 (.sil 49 (.sil 50 (.sil 51 (.eff 52 (.sil 53 (.sil 54 .stop)))))))))))))))))))))))))))))))))))))))))))))))))))))))),
  (15, 1, (.sil 0 (.sil 1 (.sil 2 (.sil 3 (.sil 4 (.sil 5 (.sil 6 (.sil 7 (.sil 8 (.sil 9 (.sil 10 (.sil 11 (.sil 12 (.sil 13 .stop))))))))))))))),
  (15, 4, (.sil 0 (.sil 1 (.sil 2 (.sil 3 (.sil 4 (.sil 5 (.sil 6 (.sil 7 (.sil 8 (.sil 9 (.sil 10 (.sil 11 (.sil 12 (.sil 13 (.sil 14 .stop)))))))))))))))),
  (19, 1, (.sil 0 (.sil 1 (.sil 2 (.sil 3 (.sil 5 (.sil 6 (.sil 7 (.sil 8 (.sil 10 (.sil 11 (.sil 12 (.sil 13 (.eff 4 (.eff 9 (.eff 14 (.eff 15 (.eff 16 (.sil 17 .stop))))))))))))))))))),
  (20, 6, (.sil 0 (.sil 1 (.sil 2 (.sil 3 (.sil 4 (.sil 5 (.sil 6 (.sil 7 (.sil 8 .stop)))))))))),
  (36, 1, (.sil 0 (.sil 1 (.sil 3 (.sil 4 (.sil 6 (.sil 7 (.sil 8 (.sil 9 (.sil 10 (.eff 2 (.eff 5 (.eff 11 (.eff 12 (.eff 13 (.sil 14 .stop)))))))))))))))),
  (37, 4, (.sil 0 (.sil 1 (.sil 2 (.sil 4 (.sil 5 (.eff 3 (.eff 6 (.sil 7 .stop))))))))),
  (54, 6, (.sil 0 (.sil 1 (.sil 2 (.sil 3 (.sil 4 (.sil 5 (.sil 6 .stop)))))))),
  (54, 7, (.sil 0 (.sil 1 (.sil 2 (.sil 3 (.sil 4 (.sil 5 (.sil 6 (.eff 7 (.sil 8 .stop)))))))))),
  (54, 14, (.sil 0 (.sil 1 (.sil 2 (.sil 3 (.sil 4 (.sil 5 (.sil 6 (.sil 7 (.sil 8 (.sil 9 (.sil 10 .stop)))))))))))),
  (54, 31, (.sil 0 (.sil 1 (.sil 2 (.sil 3 (.sil 4 (.sil 5 (.sil 6 (.sil 7 (.sil 8 (.sil 9 (.sil 10 .stop))))))))))))]
def Tryd.lives : List (Nat × Nat × List (Nat × Nat)) := [
  (3, 7, [(2, 1), (3, 1), (4, 0)]),
  (3, 12, [(3, 1), (5, 0)]),
  (17, 3, [(0, 0), (3, 4), (4, 0)]),
  (20, 4, [(0, 1), (1, 1), (12, 0), (13, 0)]),
  (21, 2, [(0, 1), (1, 0), (7, 0), (8, 0)]),
  (26, 1, [(0, 0), (1, 0), (3, 0), (6, 0)]),
  (26, 18, [(1, 0), (3, 0), (6, 0), (48, 3), (49, 0), (50, 0)]),
  (28, 3, [(0, 1), (3, 0), (6, 1), (7, 0), (8, 0)]),
  (30, 3, [(3, 0), (6, 1), (7, 0), (8, 0)]),
  (39, 1, [(0, 0), (1, 0), (2, 0)]),
  (39, 17, [(1, 0), (2, 0), (43, 1), (44, 0), (45, 0)]),
  (40, 3, [(0, 1), (3, 0), (9, 1), (10, 0), (11, 0)]),
  (40, 12, [(6, 0), (26, 1), (27, 0), (28, 0)]),
  (42, 1, [(0, 0), (1, 0)]),
  (43, 1, [(0, 0), (1, 0)]),
  (44, 2, [(0, 0), (2, 0), (4, 0)]),
  (45, 1, [(0, 0), (1, 0)]),
  (46, 1, [(0, 0), (1, 0)]),
  (47, 1, [(0, 0), (1, 0)]),
  (48, 1, [(0, 0), (1, 0)]),
  (52, 10, [(0, 0), (4, 0), (5, 0), (6, 0)]),
  (54, 38, [(175, 0)])]
def Tryd.digs : List (Nat × Nat × List Dig) := [
  (4, 8, [(some 28, [7], []), (some 29, [28], [0]), (some 30, [8, 29], [1]), (some 31, [29, 30], [1, 2]), (some 32, [31], [3]), (some 33, [32], [4, 1]), (some 34, [7, 33], [5]), (some 35, [34, 33], [6, 5, 5]), (some 36, [8, 35], [7]), (some 37, [35, 36, 33], [7, 8, 5]), (some 38, [4, 33], [5]), (some 39, [38, 33], [10, 5]), (some 40, [5, 33], [5]), (some 41, [40, 33], [12, 5]), (some 42, [39, 41, 33], [11, 13, 5]), (some 43, [37, 42, 33], [9, 14, 5]), (some 44, [33, 43], [5, 15]), (some 45, [44], [16, 7]), (some 46, [4, 45], [17]), (some 47, [5, 45], [17]), (some 48, [46, 47, 45], [18, 19, 17, 17]), (some 49, [48, 45], [20, 17]), (some 50, [49, 45], [21, 20, 17]), (some 51, [5, 50], [22]), (some 52, [6, 50], [22]), (some 53, [51, 52, 50], [23, 24, 22, 22]), (some 54, [53, 50], [25, 22]), (some 55, [50, 54, 45], [22, 26, 17]), (some 56, [55, 45], [27, 25, 17]), (some 57, [4, 56], [28]), (some 58, [6, 56], [28]), (some 59, [57, 58, 56], [29, 30, 28, 28]), (some 60, [56, 59, 45], [28, 31, 17]), (some 61, [45, 60], [17, 32]), (some 62, [61], [33, 31]), (some 63, [4, 62], [34]), (some 64, [4, 62], [34]), (some 65, [63, 64, 62], [35, 36, 34, 34]), (some 66, [65, 62], [37, 34]), (some 67, [62, 66], [34, 38]), (some 68, [67], [39, 37]), (some 69, [4, 68], [40]), (some 70, [5, 68], [40]), (some 71, [69, 70, 68], [41, 42, 40, 40]), (some 72, [5, 68], [40]), (some 73, [4, 68], [40]), (some 74, [72, 73, 68], [44, 45, 43, 40]), (some 75, [71, 74, 68], [43, 46, 40]), (some 76, [68, 75], [40, 47]), (some 77, [76], [48, 46]), (some 78, [4, 77], [49]), (some 79, [4, 77], [49]), (some 80, [78, 79, 77], [50, 51, 49, 49]), (some 81, [77, 80], [49, 52]), (some 2, [81], [53, 52, 0, 1, 2, 3, 4, 5, 6, 7, 8, 9, 10, 11, 12, 13, 14, 15, 16, 17, 18, 19, 20, 21, 22, 23, 24, 25, 26, 27, 28, 29, 30, 31, 32, 33, 34, 35, 36, 37, 38, 39, 40, 41, 42, 43, 44, 45, 46, 47, 48, 49, 50, 51, 52, 53])])]

def Tryd.nilszs : List (Nat × Nat) := [(8, 0)]
def Tryd.globs : List (Nat × AV) := [(0, .iface 81 (.agg [.raw (.pointer (some ⟨4, 44, none⟩))]))]
noncomputable def Tryd.phi : Phi := phi1 0 (.iface 81 (.agg #[.pointer (some ⟨4, 44, none⟩)]))
def Tryd.cfg : Cfg := { tab := Tryd.tab, live := fun f r => look2 [] Tryd.lives f r, opens := fun f => memN f [9, 13, 15, 16, 17, 18, 23, 24, 25, 26, 33, 34, 82], fresh := fun f => memN f [8], nilsz := fun f => (look1 Tryd.nilszs f).getD 0, plan := fun f r => look2 .stop Tryd.plans f r, glob := fun g => look1 Tryd.globs g }
def Tryd.X : Ctx := { cfg := Tryd.cfg, call := SoundCall Go.Proofs.Tryd.prog Tryd.phi, meth := IsMeth Go.Proofs.Tryd.prog, ta := Asserts Go.Proofs.Tryd.prog }
set_option maxRecDepth 100000
theorem Tryd.tabOk : tabB Go.Proofs.Tryd.prog Tryd.tab Tryd.tab = true := by kernel_rfl
theorem Tryd.mixed : Go.Proofs.Tryd.prog.follows .mixedOrders = true := by kernel_rfl
theorem Tryd.ok : CtxOk Go.Proofs.Tryd.prog Tryd.phi Tryd.X := ⟨tabB_ok Tryd.tabOk, fun _ _ _ _ h => h, fun _ _ _ _ h => h, fun _ _ _ h => h, Tryd.mixed, fun _ _ h => look1_one (Q := fun g v => R (phi1 0 (.iface 81 (.agg #[.pointer (some ⟨4, 44, none⟩)]))) m0 (.cptr v) (.pointer (some ⟨g, 0, none⟩))) (glob_hand (g := 0)) h⟩
noncomputable def Tryd.fns : List (Nat × Func) := [(2, Go.Proofs.Tryd.f2), (3, Go.Proofs.Tryd.f3), (4, Go.Proofs.Tryd.f4), (5, Go.Proofs.Tryd.f5), (6, Go.Proofs.Tryd.f6), (7, Go.Proofs.Tryd.f7), (8, Go.Proofs.Tryd.f8), (9, Go.Proofs.Tryd.f9), (10, Go.Proofs.Tryd.f10), (11, Go.Proofs.Tryd.f11), (12, Go.Proofs.Tryd.f12), (13, Go.Proofs.Tryd.f13), (14, Go.Proofs.Tryd.f14), (15, Go.Proofs.Tryd.f15), (16, Go.Proofs.Tryd.f16), (17, Go.Proofs.Tryd.f17), (18, Go.Proofs.Tryd.f18), (19, Go.Proofs.Tryd.f19), (20, Go.Proofs.Tryd.f20), (21, Go.Proofs.Tryd.f21), (22, Go.Proofs.Tryd.f22), (26, Go.Proofs.Tryd.f26), (27, Go.Proofs.Tryd.f27), (28, Go.Proofs.Tryd.f28), (29, Go.Proofs.Tryd.f29), (30, Go.Proofs.Tryd.f30), (31, Go.Proofs.Tryd.f31), (35, Go.Proofs.Tryd.f35), (36, Go.Proofs.Tryd.f36), (37, Go.Proofs.Tryd.f37), (38, Go.Proofs.Tryd.f38), (39, Go.Proofs.Tryd.f39), (40, Go.Proofs.Tryd.f40), (41, Go.Proofs.Tryd.f41), (42, Go.Proofs.Tryd.f42), (43, Go.Proofs.Tryd.f43), (44, Go.Proofs.Tryd.f44), (45, Go.Proofs.Tryd.f45), (46, Go.Proofs.Tryd.f46), (47, Go.Proofs.Tryd.f47), (48, Go.Proofs.Tryd.f48), (49, Go.Proofs.Tryd.f49), (50, Go.Proofs.Tryd.f50), (51, Go.Proofs.Tryd.f51), (52, Go.Proofs.Tryd.f52), (53, Go.Proofs.Tryd.f53), (54, Go.Proofs.Tryd.f54), (55, Go.Proofs.Tryd.f55), (56, Go.Proofs.Tryd.f56), (57, Go.Proofs.Tryd.f57), (58, Go.Proofs.Tryd.f58), (60, Go.Proofs.Tryd.f60), (85, Go.Proofs.Tryd.f85), (99, Go.Proofs.Tryd.f99), (101, Go.Proofs.Tryd.f101), (108, Go.Proofs.Tryd.f108)]
theorem Tryd.ok2 : fnB Tryd.cfg Tryd.digs 2 Go.Proofs.Tryd.f2 = true := by kernel_rfl
theorem Tryd.ok3 : fnB Tryd.cfg Tryd.digs 3 Go.Proofs.Tryd.f3 = true := by kernel_rfl
theorem Tryd.ok4 : fnB Tryd.cfg Tryd.digs 4 Go.Proofs.Tryd.f4 = true := by kernel_rfl
theorem Tryd.ok5 : fnB Tryd.cfg Tryd.digs 5 Go.Proofs.Tryd.f5 = true := by kernel_rfl
theorem Tryd.ok6 : fnB Tryd.cfg Tryd.digs 6 Go.Proofs.Tryd.f6 = true := by kernel_rfl
theorem Tryd.ok7 : fnB Tryd.cfg Tryd.digs 7 Go.Proofs.Tryd.f7 = true := by kernel_rfl
theorem Tryd.ok8 : fnB Tryd.cfg Tryd.digs 8 Go.Proofs.Tryd.f8 = true := by kernel_rfl
theorem Tryd.ok9 : fnB Tryd.cfg Tryd.digs 9 Go.Proofs.Tryd.f9 = true := by kernel_rfl
theorem Tryd.ok10 : fnB Tryd.cfg Tryd.digs 10 Go.Proofs.Tryd.f10 = true := by kernel_rfl
theorem Tryd.ok11 : fnB Tryd.cfg Tryd.digs 11 Go.Proofs.Tryd.f11 = true := by kernel_rfl
theorem Tryd.ok12 : fnB Tryd.cfg Tryd.digs 12 Go.Proofs.Tryd.f12 = true := by kernel_rfl
theorem Tryd.ok13 : fnB Tryd.cfg Tryd.digs 13 Go.Proofs.Tryd.f13 = true := by kernel_rfl
theorem Tryd.ok14 : fnB Tryd.cfg Tryd.digs 14 Go.Proofs.Tryd.f14 = true := by kernel_rfl
theorem Tryd.ok15 : fnB Tryd.cfg Tryd.digs 15 Go.Proofs.Tryd.f15 = true := by kernel_rfl
theorem Tryd.ok16 : fnB Tryd.cfg Tryd.digs 16 Go.Proofs.Tryd.f16 = true := by kernel_rfl
theorem Tryd.ok17 : fnB Tryd.cfg Tryd.digs 17 Go.Proofs.Tryd.f17 = true := by kernel_rfl
theorem Tryd.ok18 : fnB Tryd.cfg Tryd.digs 18 Go.Proofs.Tryd.f18 = true := by kernel_rfl
theorem Tryd.ok19 : fnB Tryd.cfg Tryd.digs 19 Go.Proofs.Tryd.f19 = true := by kernel_rfl
theorem Tryd.ok20 : fnB Tryd.cfg Tryd.digs 20 Go.Proofs.Tryd.f20 = true := by kernel_rfl
theorem Tryd.ok21 : fnB Tryd.cfg Tryd.digs 21 Go.Proofs.Tryd.f21 = true := by kernel_rfl
theorem Tryd.ok22 : fnB Tryd.cfg Tryd.digs 22 Go.Proofs.Tryd.f22 = true := by kernel_rfl
theorem Tryd.ok26 : fnB Tryd.cfg Tryd.digs 26 Go.Proofs.Tryd.f26 = true := by kernel_rfl
theorem Tryd.ok27 : fnB Tryd.cfg Tryd.digs 27 Go.Proofs.Tryd.f27 = true := by kernel_rfl
theorem Tryd.ok28 : fnB Tryd.cfg Tryd.digs 28 Go.Proofs.Tryd.f28 = true := by kernel_rfl
theorem Tryd.ok29 : fnB Tryd.cfg Tryd.digs 29 Go.Proofs.Tryd.f29 = true := by kernel_rfl
theorem Tryd.ok30 : fnB Tryd.cfg Tryd.digs 30 Go.Proofs.Tryd.f30 = true := by kernel_rfl
theorem Tryd.ok31 : fnB Tryd.cfg Tryd.digs 31 Go.Proofs.Tryd.f31 = true := by kernel_rfl
theorem Tryd.ok35 : fnB Tryd.cfg Tryd.digs 35 Go.Proofs.Tryd.f35 = true := by kernel_rfl
theorem Tryd.ok36 : fnB Tryd.cfg Tryd.digs 36 Go.Proofs.Tryd.f36 = true := by kernel_rfl
theorem Tryd.ok37 : fnB Tryd.cfg Tryd.digs 37 Go.Proofs.Tryd.f37 = true := by kernel_rfl
theorem Tryd.ok38 : fnB Tryd.cfg Tryd.digs 38 Go.Proofs.Tryd.f38 = true := by kernel_rfl
theorem Tryd.ok39 : fnB Tryd.cfg Tryd.digs 39 Go.Proofs.Tryd.f39 = true := by kernel_rfl
theorem Tryd.ok40 : fnB Tryd.cfg Tryd.digs 40 Go.Proofs.Tryd.f40 = true := by kernel_rfl
theorem Tryd.ok41 : fnB Tryd.cfg Tryd.digs 41 Go.Proofs.Tryd.f41 = true := by kernel_rfl
theorem Tryd.ok42 : fnB Tryd.cfg Tryd.digs 42 Go.Proofs.Tryd.f42 = true := by kernel_rfl
theorem Tryd.ok43 : fnB Tryd.cfg Tryd.digs 43 Go.Proofs.Tryd.f43 = true := by kernel_rfl
theorem Tryd.ok44 : fnB Tryd.cfg Tryd.digs 44 Go.Proofs.Tryd.f44 = true := by kernel_rfl
theorem Tryd.ok45 : fnB Tryd.cfg Tryd.digs 45 Go.Proofs.Tryd.f45 = true := by kernel_rfl
theorem Tryd.ok46 : fnB Tryd.cfg Tryd.digs 46 Go.Proofs.Tryd.f46 = true := by kernel_rfl
theorem Tryd.ok47 : fnB Tryd.cfg Tryd.digs 47 Go.Proofs.Tryd.f47 = true := by kernel_rfl
theorem Tryd.ok48 : fnB Tryd.cfg Tryd.digs 48 Go.Proofs.Tryd.f48 = true := by kernel_rfl
theorem Tryd.ok49 : fnB Tryd.cfg Tryd.digs 49 Go.Proofs.Tryd.f49 = true := by kernel_rfl
theorem Tryd.ok50 : fnB Tryd.cfg Tryd.digs 50 Go.Proofs.Tryd.f50 = true := by kernel_rfl
theorem Tryd.ok51 : fnB Tryd.cfg Tryd.digs 51 Go.Proofs.Tryd.f51 = true := by kernel_rfl
theorem Tryd.ok52 : fnB Tryd.cfg Tryd.digs 52 Go.Proofs.Tryd.f52 = true := by kernel_rfl
theorem Tryd.ok53 : fnB Tryd.cfg Tryd.digs 53 Go.Proofs.Tryd.f53 = true := by kernel_rfl
theorem Tryd.ok54 : fnB Tryd.cfg Tryd.digs 54 Go.Proofs.Tryd.f54 = true := by kernel_rfl
theorem Tryd.ok55 : fnB Tryd.cfg Tryd.digs 55 Go.Proofs.Tryd.f55 = true := by kernel_rfl
theorem Tryd.ok56 : fnB Tryd.cfg Tryd.digs 56 Go.Proofs.Tryd.f56 = true := by kernel_rfl
theorem Tryd.ok57 : fnB Tryd.cfg Tryd.digs 57 Go.Proofs.Tryd.f57 = true := by kernel_rfl
theorem Tryd.ok58 : fnB Tryd.cfg Tryd.digs 58 Go.Proofs.Tryd.f58 = true := by kernel_rfl
theorem Tryd.ok60 : fnB Tryd.cfg Tryd.digs 60 Go.Proofs.Tryd.f60 = true := by kernel_rfl
theorem Tryd.ok85 : fnB Tryd.cfg Tryd.digs 85 Go.Proofs.Tryd.f85 = true := by kernel_rfl
theorem Tryd.ok99 : fnB Tryd.cfg Tryd.digs 99 Go.Proofs.Tryd.f99 = true := by kernel_rfl
theorem Tryd.ok101 : fnB Tryd.cfg Tryd.digs 101 Go.Proofs.Tryd.f101 = true := by kernel_rfl
theorem Tryd.ok108 : fnB Tryd.cfg Tryd.digs 108 Go.Proofs.Tryd.f108 = true := by kernel_rfl
theorem Tryd.fnsOk : FnsOk Go.Proofs.Tryd.prog Tryd.cfg Tryd.digs Tryd.fns := ⟨Go.Proofs.Tryd.func2, Tryd.ok2, Go.Proofs.Tryd.func3, Tryd.ok3, Go.Proofs.Tryd.func4, Tryd.ok4, Go.Proofs.Tryd.func5, Tryd.ok5, Go.Proofs.Tryd.func6, Tryd.ok6, Go.Proofs.Tryd.func7, Tryd.ok7, Go.Proofs.Tryd.func8, Tryd.ok8, Go.Proofs.Tryd.func9, Tryd.ok9, Go.Proofs.Tryd.func10, Tryd.ok10, Go.Proofs.Tryd.func11, Tryd.ok11, Go.Proofs.Tryd.func12, Tryd.ok12, Go.Proofs.Tryd.func13, Tryd.ok13, Go.Proofs.Tryd.func14, Tryd.ok14, Go.Proofs.Tryd.func15, Tryd.ok15, Go.Proofs.Tryd.func16, Tryd.ok16, Go.Proofs.Tryd.func17, Tryd.ok17, Go.Proofs.Tryd.func18, Tryd.ok18, Go.Proofs.Tryd.func19, Tryd.ok19, Go.Proofs.Tryd.func20, Tryd.ok20, Go.Proofs.Tryd.func21, Tryd.ok21, Go.Proofs.Tryd.func22, Tryd.ok22, Go.Proofs.Tryd.func26, Tryd.ok26, Go.Proofs.Tryd.func27, Tryd.ok27, Go.Proofs.Tryd.func28, Tryd.ok28, Go.Proofs.Tryd.func29, Tryd.ok29, Go.Proofs.Tryd.func30, Tryd.ok30, Go.Proofs.Tryd.func31, Tryd.ok31, Go.Proofs.Tryd.func35, Tryd.ok35, Go.Proofs.Tryd.func36, Tryd.ok36, Go.Proofs.Tryd.func37, Tryd.ok37, Go.Proofs.Tryd.func38, Tryd.ok38, Go.Proofs.Tryd.func39, Tryd.ok39, Go.Proofs.Tryd.func40, Tryd.ok40, Go.Proofs.Tryd.func41, Tryd.ok41, Go.Proofs.Tryd.func42, Tryd.ok42, Go.Proofs.Tryd.func43, Tryd.ok43, Go.Proofs.Tryd.func44, Tryd.ok44, Go.Proofs.Tryd.func45, Tryd.ok45, Go.Proofs.Tryd.func46, Tryd.ok46, Go.Proofs.Tryd.func47, Tryd.ok47, Go.Proofs.Tryd.func48, Tryd.ok48, Go.Proofs.Tryd.func49, Tryd.ok49, Go.Proofs.Tryd.func50, Tryd.ok50, Go.Proofs.Tryd.func51, Tryd.ok51, Go.Proofs.Tryd.func52, Tryd.ok52, Go.Proofs.Tryd.func53, Tryd.ok53, Go.Proofs.Tryd.func54, Tryd.ok54, Go.Proofs.Tryd.func55, Tryd.ok55, Go.Proofs.Tryd.func56, Tryd.ok56, Go.Proofs.Tryd.func57, Tryd.ok57, Go.Proofs.Tryd.func58, Tryd.ok58, Go.Proofs.Tryd.func60, Tryd.ok60, Go.Proofs.Tryd.func85, Tryd.ok85, Go.Proofs.Tryd.func99, Tryd.ok99, Go.Proofs.Tryd.func101, Tryd.ok101, Go.Proofs.Tryd.func108, Tryd.ok108, trivial⟩
end Go.Ab
