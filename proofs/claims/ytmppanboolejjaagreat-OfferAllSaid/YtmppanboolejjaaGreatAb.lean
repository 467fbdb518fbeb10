/- The seat's program: its types, plans, what lives at loops' heads; the context. Printed by mkseat.py. -/
import Derived.Test.YtmppanboolejjaaGreatG3
import Derived.Test.YtmppanboolejjaaGreatProg
import Derived.KernelRfl
namespace Go.Ab
open Go Go.Proofs
def Tryz.tab : Tab := [
  (0,⟨1,false,.other,[],none,0,false⟩),
  (1,⟨1,false,.other,[],(some (.nilf)),8,false⟩),
  (2,⟨1,false,(.int .i64),[],(some (.int .i64 0)),8,true⟩),
  (3,⟨1,false,(.int .i64),[],(some (.int .i64 0)),8,true⟩),
  (4,⟨1,false,.bool,[],(some (.bool false)),1,true⟩),
  (5,⟨1,false,(.int .u8),[],(some (.int .u8 0)),1,true⟩),
  (6,⟨1,false,(.int .u8),[],(some (.int .u8 0)),1,true⟩),
  (7,⟨4,true,.struct,[(0,2),(1,3),(2,4),(3,6)],(some (.agg [.int .i64 0,.int .i64 0,.bool false,.int .u8 0])),24,true⟩),
  (8,⟨4,true,.struct,[(0,2),(1,3),(2,4),(3,6)],(some (.agg [.int .i64 0,.int .i64 0,.bool false,.int .u8 0])),24,true⟩),
  (9,⟨1,false,.string,[],(some (.str [])),16,true⟩),
  (10,⟨1,false,.string,[],(some (.str [])),16,true⟩),
  (11,⟨1,false,.string,[],(some (.str [])),16,true⟩),
  (12,⟨1,false,(.int .u64),[],(some (.int .u64 0)),8,true⟩),
  (13,⟨2,true,.struct,[(0,9),(1,12)],(some (.agg [.str [],.int .u64 0])),24,false⟩),
  (14,⟨2,true,.struct,[(0,9),(1,12)],(some (.agg [.str [],.int .u64 0])),24,false⟩),
  (15,⟨1,false,(.pointer 207),[],(some (.nilp)),8,true⟩),
  (16,⟨1,false,(.pointer 210),[],(some (.nilp)),8,true⟩),
  (17,⟨1,false,(.pointer 218),[],(some (.nilp)),8,true⟩),
  (18,⟨1,true,.struct,[(0,17)],(some (.agg [.nilp])),8,false⟩),
  (19,⟨1,true,.struct,[(0,17)],(some (.agg [.nilp])),8,false⟩),
  (20,⟨1,false,.iface,[],(some (.nili)),16,true⟩),
  (21,⟨1,false,(.int .i32),[],(some (.int .i32 0)),4,true⟩),
  (22,⟨1,false,(.slice 5),[],(some (.nils)),24,false⟩),
  (23,⟨1,false,.other,[],(some (.nilf)),8,false⟩),
  (24,⟨1,false,(.pointer 81),[],(some (.nilp)),8,true⟩),
  (25,⟨1,false,.other,[],(some (.nilf)),8,false⟩),
  (26,⟨1,false,(.slice 54),[],(some (.nils)),24,false⟩),
  (27,⟨1,false,(.slice 45),[],(some (.nils)),24,false⟩),
  (28,⟨1,false,(.slice 96),[],(some (.nils)),24,false⟩),
  (29,⟨1,false,(.slice 72),[],(some (.nils)),24,false⟩),
  (30,⟨6,true,.struct,[(0,3),(1,3),(2,26),(3,27),(4,28),(5,29)],(some (.agg [.int .i64 0,.int .i64 0,.nils,.nils,.nils,.nils])),112,false⟩),
  (31,⟨6,true,.struct,[(0,3),(1,3),(2,26),(3,27),(4,28),(5,29)],(some (.agg [.int .i64 0,.int .i64 0,.nils,.nils,.nils,.nils])),112,false⟩),
  (32,⟨1,false,.other,[],(some (.nilf)),8,false⟩),
  (33,⟨1,false,.other,[],(some (.nilf)),8,false⟩),
  (34,⟨1,false,.other,[],(some (.nilf)),8,false⟩),
  (35,⟨1,false,.other,[],(some (.nilf)),8,false⟩),
  (36,⟨1,false,(.slice 31),[],(some (.nils)),24,false⟩),
  (37,⟨1,false,.other,[],(some (.nilf)),8,false⟩),
  (38,⟨1,false,.other,[],(some (.nilf)),8,false⟩),
  (39,⟨1,false,(.slice 50),[],(some (.nils)),24,false⟩),
  (40,⟨1,false,(.slice 3),[],(some (.nils)),24,false⟩),
  (41,⟨5,true,.struct,[(0,3),(1,3),(2,9),(3,39),(4,40)],(some (.agg [.int .i64 0,.int .i64 0,.str [],.nils,.nils])),80,false⟩),
  (42,⟨5,true,.struct,[(0,3),(1,3),(2,9),(3,39),(4,40)],(some (.agg [.int .i64 0,.int .i64 0,.str [],.nils,.nils])),80,false⟩),
  (43,⟨1,false,(.slice 42),[],(some (.nils)),24,false⟩),
  (44,⟨7,true,.struct,[(0,3),(1,3),(2,3),(3,3),(4,3),(5,29),(6,43)],(some (.agg [.int .i64 0,.int .i64 0,.int .i64 0,.int .i64 0,.int .i64 0,.nils,.nils])),88,false⟩),
  (45,⟨7,true,.struct,[(0,3),(1,3),(2,3),(3,3),(4,3),(5,29),(6,43)],(some (.agg [.int .i64 0,.int .i64 0,.int .i64 0,.int .i64 0,.int .i64 0,.nils,.nils])),88,false⟩),
  (46,⟨1,false,.other,[],(some (.nilf)),8,false⟩),
  (47,⟨3,true,.struct,[(0,3),(1,3),(2,3)],(some (.agg [.int .i64 0,.int .i64 0,.int .i64 0])),24,true⟩),
  (48,⟨3,true,.struct,[(0,3),(1,3),(2,3)],(some (.agg [.int .i64 0,.int .i64 0,.int .i64 0])),24,true⟩),
  (49,⟨4,true,.struct,[(0,3),(1,48)],(some (.agg [.int .i64 0,.int .i64 0,.int .i64 0,.int .i64 0])),32,true⟩),
  (50,⟨4,true,.struct,[(0,3),(1,48)],(some (.agg [.int .i64 0,.int .i64 0,.int .i64 0,.int .i64 0])),32,true⟩),
  (51,⟨1,false,.other,[],(some (.nilf)),8,false⟩),
  (52,⟨1,false,.other,[],none,0,false⟩),
  (53,⟨1,false,.other,[],(some (.nilf)),8,false⟩),
  (54,⟨2,true,(.array 2 3),[(0,3),(1,3)],(some (.agg [.int .i64 0,.int .i64 0])),16,true⟩),
  (55,⟨1,false,(.slice 111),[],(some (.nils)),24,false⟩),
  (56,⟨8,true,.struct,[(0,3),(1,3),(2,3),(3,3),(4,3),(5,55),(6,9),(7,9)],(some (.agg [.int .i64 0,.int .i64 0,.int .i64 0,.int .i64 0,.int .i64 0,.nils,.str [],.str []])),96,false⟩),
  (57,⟨8,true,.struct,[(0,3),(1,3),(2,3),(3,3),(4,3),(5,55),(6,9),(7,9)],(some (.agg [.int .i64 0,.int .i64 0,.int .i64 0,.int .i64 0,.int .i64 0,.nils,.str [],.str []])),96,false⟩),
  (58,⟨1,false,(.slice 57),[],(some (.nils)),24,false⟩),
  (59,⟨1,false,(.int .i64),[],(some (.int .i64 0)),8,true⟩),
  (60,⟨1,false,.other,[],none,0,false⟩),
  (61,⟨1,false,.other,[],(some (.nilf)),8,false⟩),
  (62,⟨1,false,.other,[],(some (.nilf)),8,false⟩),
  (63,⟨1,false,.other,[],(some (.nilf)),8,false⟩),
  (64,⟨4,true,.struct,[(0,3),(1,3),(2,43),(3,29)],(some (.agg [.int .i64 0,.int .i64 0,.nils,.nils])),64,false⟩),
  (65,⟨4,true,.struct,[(0,3),(1,3),(2,43),(3,29)],(some (.agg [.int .i64 0,.int .i64 0,.nils,.nils])),64,false⟩),
  (66,⟨1,false,.other,[],none,0,false⟩),
  (67,⟨1,false,.other,[],(some (.nilf)),8,false⟩),
  (68,⟨1,false,.other,[],(some (.nilf)),8,false⟩),
  (69,⟨1,false,.other,[],(some (.nilf)),8,false⟩),
  (70,⟨1,false,.other,[],none,8,false⟩),
  (71,⟨8,true,.struct,[(0,3),(1,48),(4,4),(5,55),(6,9),(7,9)],(some (.agg [.int .i64 0,.int .i64 0,.int .i64 0,.int .i64 0,.bool false,.nils,.str [],.str []])),96,false⟩),
  (72,⟨8,true,.struct,[(0,3),(1,48),(4,4),(5,55),(6,9),(7,9)],(some (.agg [.int .i64 0,.int .i64 0,.int .i64 0,.int .i64 0,.bool false,.nils,.str [],.str []])),96,false⟩),
  (73,⟨1,false,.other,[],none,0,false⟩),
  (74,⟨1,false,.other,[],(some (.nilf)),8,false⟩),
  (75,⟨1,false,.other,[],(some (.nilf)),8,false⟩),
  (76,⟨1,false,.other,[],(some (.nilf)),8,false⟩),
  (77,⟨1,false,.other,[],(some (.nilf)),8,false⟩),
  (78,⟨1,false,.other,[],(some (.nilf)),8,false⟩),
  (79,⟨1,false,.other,[],(some (.nilf)),8,false⟩),
  (80,⟨2,true,.struct,[(0,22),(1,3)],(some (.agg [.nils,.int .i64 0])),32,false⟩),
  (81,⟨2,true,.struct,[(0,22),(1,3)],(some (.agg [.nils,.int .i64 0])),32,false⟩),
  (82,⟨1,false,.other,[],(some (.nilf)),8,false⟩),
  (83,⟨1,false,.other,[],(some (.nilf)),8,false⟩),
  (84,⟨1,false,.other,[],(some (.nilf)),8,false⟩),
  (85,⟨1,false,.other,[],(some (.nilf)),8,false⟩),
  (86,⟨1,false,.other,[],(some (.nilf)),8,false⟩),
  (87,⟨1,false,.other,[],(some (.nilf)),8,false⟩),
  (88,⟨1,false,.other,[],none,0,false⟩),
  (89,⟨1,false,.other,[],(some (.nilf)),8,false⟩),
  (90,⟨1,false,.other,[],(some (.nilf)),8,false⟩),
  (91,⟨1,false,.other,[],none,0,false⟩),
  (92,⟨1,false,.other,[],(some (.nilf)),8,false⟩),
  (93,⟨1,false,.other,[],none,0,false⟩),
  (94,⟨1,false,.other,[],(some (.nilf)),8,false⟩),
  (95,⟨4,true,.struct,[(0,3),(1,3),(2,9),(3,4)],(some (.agg [.int .i64 0,.int .i64 0,.str [],.bool false])),40,true⟩),
  (96,⟨4,true,.struct,[(0,3),(1,3),(2,9),(3,4)],(some (.agg [.int .i64 0,.int .i64 0,.str [],.bool false])),40,true⟩),
  (97,⟨1,false,.other,[],none,0,false⟩),
  (98,⟨1,false,.other,[],(some (.nilf)),8,false⟩),
  (99,⟨1,false,.other,[],(some (.nilf)),8,false⟩),
  (100,⟨1,false,.other,[],none,0,false⟩),
  (101,⟨1,false,.other,[],(some (.nilf)),8,false⟩),
  (102,⟨1,false,.other,[],(some (.nilf)),8,false⟩),
  (103,⟨1,false,.other,[],(some (.nilf)),8,false⟩),
  (104,⟨1,false,.other,[],(some (.nilf)),8,false⟩),
  (105,⟨1,false,.other,[],none,0,false⟩),
  (106,⟨1,false,.other,[],(some (.nilf)),8,false⟩),
  (107,⟨1,false,.other,[],(some (.nilf)),8,false⟩),
  (108,⟨1,false,.other,[],(some (.nilf)),8,false⟩),
  (109,⟨1,false,.other,[],(some (.nilf)),8,false⟩),
  (110,⟨2,true,.struct,[(0,3),(1,3)],(some (.agg [.int .i64 0,.int .i64 0])),16,true⟩),
  (111,⟨2,true,.struct,[(0,3),(1,3)],(some (.agg [.int .i64 0,.int .i64 0])),16,true⟩),
  (112,⟨1,false,.other,[],(some (.nilf)),8,false⟩),
  (113,⟨1,false,.other,[],(some (.nilf)),8,false⟩),
  (114,⟨1,false,.other,[],(some (.nilf)),8,false⟩),
  (115,⟨1,false,.other,[],(some (.nilf)),8,false⟩),
  (116,⟨1,false,.other,[],(some (.nilf)),8,false⟩),
  (117,⟨3,true,(.array 3 3),[(0,3),(1,3),(2,3)],(some (.agg [.int .i64 0,.int .i64 0,.int .i64 0])),24,true⟩),
  (118,⟨1,false,.other,[],(some (.nilf)),8,false⟩),
  (119,⟨1,false,.other,[],(some (.nilf)),8,false⟩),
  (120,⟨1,false,.other,[],(some (.nilf)),8,false⟩),
  (121,⟨1,false,.other,[],(some (.nilf)),8,false⟩),
  (122,⟨1,false,.other,[],(some (.nilf)),8,false⟩),
  (123,⟨1,false,.other,[],(some (.nilf)),8,false⟩),
  (124,⟨1,false,.other,[],none,0,false⟩),
  (125,⟨1,false,.other,[],(some (.nilf)),8,false⟩),
  (126,⟨1,false,.other,[],(some (.nilf)),8,false⟩),
  (127,⟨1,false,.other,[],(some (.nilf)),8,false⟩),
  (128,⟨1,false,.other,[],(some (.nilf)),8,false⟩),
  (129,⟨1,false,.other,[],(some (.nilf)),8,false⟩),
  (130,⟨1,false,.other,[],(some (.nilf)),8,false⟩),
  (131,⟨1,false,.other,[],(some (.nilf)),8,false⟩),
  (132,⟨1,false,.other,[],(some (.nilf)),8,false⟩),
  (133,⟨1,false,.other,[],(some (.nilf)),8,false⟩),
  (134,⟨1,false,.other,[],(some (.nilf)),8,false⟩),
  (135,⟨1,false,(.int .u16),[],(some (.int .u16 0)),2,true⟩),
  (136,⟨1,false,.other,[],(some (.nilf)),8,false⟩),
  (137,⟨1,false,(.int .u64),[],(some (.int .u64 0)),8,true⟩),
  (138,⟨1,false,(.pointer 140),[],(some (.nilp)),8,true⟩),
  (139,⟨2,true,.struct,[(0,22),(1,4)],(some (.agg [.nils,.bool false])),32,false⟩),
  (140,⟨2,true,.struct,[(0,22),(1,4)],(some (.agg [.nils,.bool false])),32,false⟩),
  (141,⟨1,false,.other,[],(some (.nilf)),8,false⟩),
  (142,⟨1,false,.other,[],(some (.nilf)),8,false⟩),
  (143,⟨1,false,.other,[],none,0,false⟩),
  (144,⟨1,false,.other,[],(some (.nilf)),8,false⟩),
  (145,⟨1,false,.other,[],(some (.nilf)),8,false⟩),
  (146,⟨1,false,.other,[],(some (.nilf)),8,false⟩),
  (147,⟨1,false,.other,[],(some (.nilf)),8,false⟩),
  (148,⟨1,false,.other,[],(some (.nilf)),8,false⟩),
  (149,⟨1,false,(.slice 151),[],(some (.nils)),24,false⟩),
  (150,⟨6,true,.struct,[(0,3),(1,3),(2,3),(3,3),(4,9),(5,149)],(some (.agg [.int .i64 0,.int .i64 0,.int .i64 0,.int .i64 0,.str [],.nils])),72,false⟩),
  (151,⟨6,true,.struct,[(0,3),(1,3),(2,3),(3,3),(4,9),(5,149)],(some (.agg [.int .i64 0,.int .i64 0,.int .i64 0,.int .i64 0,.str [],.nils])),72,false⟩),
  (152,⟨1,false,.other,[],(some (.nilf)),8,false⟩),
  (153,⟨1,false,.other,[],(some (.nilf)),8,false⟩),
  (154,⟨1,false,.other,[],(some (.nilf)),8,false⟩),
  (155,⟨1,false,.other,[],(some (.nilf)),8,false⟩),
  (156,⟨1,false,.other,[],none,0,false⟩),
  (157,⟨1,false,.other,[],(some (.nilf)),8,false⟩),
  (158,⟨1,false,.other,[],(some (.nilf)),8,false⟩),
  (159,⟨1,false,.other,[],(some (.nilf)),8,false⟩),
  (160,⟨1,false,.other,[],(some (.nilf)),8,false⟩),
  (161,⟨1,false,.other,[],(some (.nilf)),8,false⟩),
  (162,⟨1,false,.other,[],(some (.nilf)),8,false⟩),
  (163,⟨1,false,.other,[],(some (.nilf)),8,false⟩),
  (164,⟨1,false,.other,[],none,0,false⟩),
  (165,⟨1,false,.other,[],(some (.nilf)),8,false⟩),
  (166,⟨1,false,.other,[],(some (.nilf)),8,false⟩),
  (167,⟨1,false,.other,[],(some (.nilf)),8,false⟩),
  (168,⟨1,false,.other,[],(some (.nilf)),8,false⟩),
  (169,⟨1,false,(.slice 9),[],(some (.nils)),24,false⟩),
  (170,⟨1,false,.other,[],(some (.nilf)),8,false⟩),
  (171,⟨1,false,.other,[],(some (.nilf)),8,false⟩),
  (172,⟨1,false,.other,[],(some (.nilf)),8,false⟩),
  (173,⟨1,false,.other,[],(some (.nilf)),8,false⟩),
  (174,⟨1,false,.other,[],(some (.nilf)),8,false⟩),
  (175,⟨1,false,.other,[],(some (.nilf)),8,false⟩),
  (176,⟨1,false,.other,[],(some (.nilf)),8,false⟩),
  (177,⟨1,false,(.int .u32),[],(some (.int .u32 0)),4,true⟩),
  (178,⟨1,false,.other,[],none,0,false⟩),
  (179,⟨1,false,.other,[],(some (.nilf)),8,false⟩),
  (180,⟨1,false,.other,[],none,0,false⟩),
  (181,⟨1,false,.other,[],(some (.nilf)),8,false⟩),
  (182,⟨1,false,.other,[],(some (.nilf)),8,false⟩),
  (183,⟨1,false,.other,[],(some (.nilf)),8,false⟩),
  (184,⟨1,false,.other,[],(some (.nilf)),8,false⟩),
  (185,⟨1,false,.other,[],(some (.nilf)),8,false⟩),
  (186,⟨1,false,.other,[],(some (.nilf)),8,false⟩),
  (187,⟨1,false,.other,[],(some (.nilf)),8,false⟩),
  (188,⟨1,false,.other,[],(some (.nilf)),8,false⟩),
  (189,⟨1,false,(.slice 200),[],(some (.nils)),24,false⟩),
  (190,⟨1,false,.other,[],none,0,false⟩),
  (191,⟨1,false,.other,[],(some (.nilf)),8,false⟩),
  (192,⟨1,false,(.pointer 194),[],(some (.nilp)),8,true⟩),
  (193,⟨5,true,.struct,[(0,189),(1,3),(2,3),(3,4),(4,3)],(some (.agg [.nils,.int .i64 0,.int .i64 0,.bool false,.int .i64 0])),56,false⟩),
  (194,⟨5,true,.struct,[(0,189),(1,3),(2,3),(3,4),(4,3)],(some (.agg [.nils,.int .i64 0,.int .i64 0,.bool false,.int .i64 0])),56,false⟩),
  (195,⟨1,false,.other,[],(some (.nilf)),8,false⟩),
  (196,⟨1,false,.other,[],(some (.nilf)),8,false⟩),
  (197,⟨1,false,.other,[],(some (.nilf)),8,false⟩),
  (198,⟨1,false,.other,[],(some (.nilf)),8,false⟩),
  (199,⟨4,true,.struct,[(0,3),(1,9),(2,3),(3,3)],(some (.agg [.int .i64 0,.str [],.int .i64 0,.int .i64 0])),40,true⟩),
  (200,⟨4,true,.struct,[(0,3),(1,9),(2,3),(3,3)],(some (.agg [.int .i64 0,.str [],.int .i64 0,.int .i64 0])),40,true⟩),
  (201,⟨1,false,.other,[],none,0,false⟩),
  (202,⟨1,false,.other,[],(some (.nilf)),8,false⟩),
  (203,⟨1,false,.other,[],(some (.nilf)),8,false⟩),
  (204,⟨1,false,.other,[],(some (.nilf)),8,false⟩),
  (205,⟨1,false,.other,[],(some (.nilf)),8,false⟩),
  (206,⟨4,true,.struct,[(0,17),(1,17),(2,17),(3,9)],(some (.agg [.nilp,.nilp,.nilp,.str []])),40,false⟩),
  (207,⟨4,true,.struct,[(0,17),(1,17),(2,17),(3,9)],(some (.agg [.nilp,.nilp,.nilp,.str []])),40,false⟩),
  (208,⟨0,true,(.array 0 16),[],(some (.agg [])),0,true⟩),
  (209,⟨0,true,.struct,[(0,208)],(some (.agg [])),0,false⟩),
  (210,⟨0,true,.struct,[(0,208)],(some (.agg [])),0,false⟩),
  (211,⟨1,false,(.int .u8),[],(some (.int .u8 0)),1,true⟩),
  (212,⟨1,false,(.int .u8),[],(some (.int .u8 0)),1,true⟩),
  (213,⟨1,false,.other,[],(some (.nilf)),8,false⟩),
  (214,⟨1,false,(.pointer 5),[],(some (.nilp)),8,true⟩),
  (215,⟨1,false,(.int .i32),[],(some (.int .i32 0)),4,true⟩),
  (216,⟨1,false,(.int .i32),[],(some (.int .i32 0)),4,true⟩),
  (217,⟨11,true,.struct,[(0,12),(1,12),(2,177),(3,211),(4,5),(5,5),(6,212),(7,213),(8,214),(9,215),(10,216)],(some (.agg [.int .u64 0,.int .u64 0,.int .u32 0,.int .u8 0,.int .u8 0,.int .u8 0,.int .u8 0,.nilf,.nilp,.int .i32 0,.int .i32 0])),48,false⟩),
  (218,⟨11,true,.struct,[(0,12),(1,12),(2,177),(3,211),(4,5),(5,5),(6,212),(7,213),(8,214),(9,215),(10,216)],(some (.agg [.int .u64 0,.int .u64 0,.int .u32 0,.int .u8 0,.int .u8 0,.int .u8 0,.int .u8 0,.nilf,.nilp,.int .i32 0,.int .i32 0])),48,false⟩),
  (219,⟨1,false,.other,[],(some (.nilp)),8,true⟩)]
def Tryz.plans : List (Nat × Nat × Plan) := [
  (3,7,(.sil 0 (.sil 1 (.eff 2 (.eff 3 (.sil 4 .stop)))))),
  (3,11,(.sil 0 (.sil 1 (.sil 2 (.sil 3 (.sil 5 (.sil 6 (.sil 7 (.sil 8 (.eff 4 (.eff 9 (.sil 10 (.sil 11 (.sil 12 (.sil 13 (.sil 14 (.sil 15 (.sil 17 (.sil 18 (.sil 19 (.sil 20 (.eff 16 (.eff 21 (.sil 22 (.sil 23 (.sil 24 (.sil 25 (.sil 26 (.sil 27 (.sil 28 (.sil 30 (.sil 31 (.sil 32 (.sil 33 (.eff 29 (.eff 34 (.sil 35 (.sil 36 .stop)))))))))))))))))))))))))))))))))))))),
  (4,19,(.sil 0 (.sil 1 (.sil 2 (.sil 3 (.sil 4 (.sil 5 (.sil 6 (.sil 7 (.sil 8 (.sil 9 (.sil 10 (.sil 11 (.sil 12 (.sil 13 (.sil 14 (.sil 15 (.sil 16 (.sil 17 (.sil 18 (.sil 19 (.sil 20 (.sil 21 (.sil 22 .stop)))))))))))))))))))))))),
  (4,25,(.sil 0 (.sil 1 (.sil 2 (.sil 3 (.sil 4 (.sil 5 (.sil 6 (.sil 7 (.sil 8 (.sil 9 (.sil 10 (.sil 11 (.sil 12 (.sil 13 .stop))))))))))))))),
  (5,9,(.sil 0 (.sil 1 (.sil 2 (.sil 3 (.sil 4 (.alt (.eff 5 (.sil 6 (.sil 7 (.sil 8 (.eff 9 (.eff 10 (.sil 11 .stop))))))) (.eff 9 (.eff 5 (.sil 6 (.sil 7 (.sil 8 (.eff 10 (.sil 11 .stop)))))))))))))),
  (5,10,(.sil 0 (.sil 1 (.sil 2 (.sil 3 (.sil 5 (.sil 6 (.sil 7 (.sil 8 (.eff 4 (.sil 9 (.sil 10 (.sil 11 (.sil 12 (.sil 14 (.sil 17 (.eff 13 (.eff 15 (.sil 16 (.eff 18 (.sil 19 (.sil 20 (.sil 21 .stop))))))))))))))))))))))),
  (7,20,(.sil 0 (.sil 1 (.sil 2 (.sil 3 (.sil 4 (.eff 5 (.sil 6 (.sil 7 (.sil 8 (.sil 9 (.sil 10 (.sil 11 (.sil 12 (.sil 13 (.sil 14 (.sil 15 (.sil 16 (.sil 17 (.sil 18 (.sil 19 (.sil 20 (.eff 21 (.sil 22 (.sil 23 (.sil 24 (.sil 25 (.sil 26 (.sil 27 (.sil 28 (.sil 29 (.sil 30 (.sil 31 (.sil 32 (.sil 33 (.sil 34 (.sil 35 (.sil 36 (.eff 37 (.eff 38 (.sil 39 (.sil 40 .stop)))))))))))))))))))))))))))))))))))))))))),
  (7,27,(.sil 0 (.sil 1 (.sil 2 (.sil 3 (.sil 4 (.sil 5 (.sil 6 (.sil 7 (.sil 8 (.sil 9 (.sil 10 (.sil 11 (.sil 12 (.sil 13 (.sil 14 (.sil 15 (.eff 16 (.eff 17 (.sil 18 (.sil 19 .stop))))))))))))))))))))),
  (7,28,(.sil 0 (.sil 1 (.sil 2 (.sil 3 (.sil 4 (.sil 5 (.sil 6 (.sil 7 (.sil 8 (.sil 9 (.sil 10 (.sil 11 (.sil 12 (.sil 13 (.sil 14 (.eff 15 (.sil 16 (.sil 17 .stop))))))))))))))))))),
  (8,18,(.sil 0 (.sil 1 (.sil 2 (.sil 3 (.sil 4 (.sil 5 (.sil 6 (.sil 7 (.sil 8 (.sil 9 (.sil 10 (.sil 11 (.sil 12 (.sil 13 (.sil 14 (.sil 15 (.eff 16 (.sil 17 (.sil 18 .stop)))))))))))))))))))),
  (11,4,(.sil 0 (.sil 1 (.sil 2 (.eff 3 (.eff 4 (.sil 5 (.sil 6 (.sil 7 (.eff 8 .stop)))))))))),
  (13,1,(.sil 0 (.sil 1 (.sil 2 (.sil 3 (.sil 4 (.sil 5 (.sil 6 (.sil 7 (.sil 8 (.sil 9 (.sil 10 (.sil 11 (.sil 12 (.sil 13 .stop))))))))))))))),
  (13,4,(.sil 0 (.sil 1 (.sil 2 (.sil 3 (.sil 4 (.sil 5 (.sil 6 (.sil 7 (.sil 8 (.sil 9 (.sil 10 (.sil 11 (.sil 12 (.sil 13 (.sil 14 .stop)))))))))))))))),
  (15,7,(.sil 0 (.sil 1 (.sil 4 (.sil 5 (.sil 7 (.sil 10 (.sil 11 (.eff 2 (.sil 3 (.eff 6 (.eff 8 (.sil 9 (.eff 12 (.sil 13 (.sil 14 (.sil 15 (.sil 16 .stop)))))))))))))))))),
  (16,8,(.sil 0 (.sil 1 (.sil 2 (.sil 3 (.sil 4 (.sil 7 (.sil 8 (.sil 9 (.sil 10 (.sil 11 (.eff 5 (.sil 6 (.eff 12 (.sil 13 (.sil 14 (.sil 15 .stop))))))))))))))))),
  (16,10,(.sil 0 (.sil 1 (.sil 2 (.sil 3 (.sil 4 (.sil 5 (.sil 6 (.sil 7 (.sil 8 (.sil 9 (.sil 10 (.sil 11 (.sil 12 .stop)))))))))))))),
  (17,7,(.sil 0 (.sil 3 (.sil 4 (.sil 6 (.sil 7 (.eff 1 (.sil 2 (.eff 5 (.sil 8 .stop)))))))))),
  (18,9,(.sil 0 (.sil 1 (.sil 2 (.sil 3 (.sil 4 (.sil 7 (.sil 8 (.sil 9 (.sil 10 (.sil 11 (.sil 13 (.sil 14 (.sil 15 (.sil 16 (.sil 17 (.eff 5 (.sil 6 (.eff 12 (.sil 18 .stop)))))))))))))))))))),
  (19,1,(.sil 0 (.sil 3 (.eff 1 (.sil 2 (.eff 4 (.sil 5 (.sil 6 .stop)))))))),
  (20,1,(.sil 0 (.sil 3 (.eff 1 (.sil 2 (.eff 4 (.sil 5 (.sil 6 .stop)))))))),
  (21,5,(.sil 0 (.sil 1 (.sil 2 (.sil 3 (.sil 4 (.sil 5 (.sil 6 (.sil 7 (.sil 8 (.sil 9 (.sil 10 (.sil 11 (.sil 12 (.sil 13 (.eff 14 (.sil 15 .stop))))))))))))))))),
  (23,11,(.sil 0 (.sil 1 (.sil 2 (.sil 3 (.sil 4 (.sil 5 (.sil 6 (.sil 7 (.sil 8 (.sil 9 (.sil 10 (.alt (.eff 11 (.sil 12 (.sil 13 (.sil 14 (.eff 15 (.eff 16 (.sil 17 .stop))))))) (.eff 15 (.eff 11 (.sil 12 (.sil 13 (.sil 14 (.eff 16 (.sil 17 .stop)))))))))))))))))))),
  (23,26,(.sil 0 (.sil 1 (.sil 2 (.sil 3 (.sil 4 (.sil 5 (.sil 6 (.sil 7 (.alt (.eff 8 (.sil 9 (.sil 10 (.sil 11 (.eff 12 (.eff 13 (.sil 14 .stop))))))) (.eff 12 (.eff 8 (.sil 9 (.sil 10 (.sil 11 (.eff 13 (.sil 14 .stop))))))))))))))))),
  (24,1,(.sil 0 (.sil 1 (.sil 2 (.sil 3 (.sil 4 (.sil 5 (.sil 6 (.sil 7 (.sil 8 (.alt (.eff 9 (.sil 10 (.sil 11 (.sil 12 (.eff 13 (.eff 14 (.sil 15 .stop))))))) (.eff 13 (.eff 9 (.sil 10 (.sil 11 (.sil 12 (.eff 14 (.sil 15 .stop)))))))))))))))))),
  (24,4,(.sil 0 (.sil 1 (.sil 2 (.sil 3 (.sil 4 (.sil 5 (.sil 6 (.alt (.eff 7 (.sil 8 (.sil 9 (.sil 10 (.eff 11 (.eff 12 (.sil 13 .stop))))))) (.eff 11 (.eff 7 (.sil 8 (.sil 9 (.sil 10 (.eff 12 (.sil 13 .stop)))))))))))))))),
  (26,2,(.sil 0 (.sil 1 (.sil 2 (.sil 3 (.sil 4 (.sil 5 (.eff 6 (.sil 7 (.sil 8 (.eff 9 .stop))))))))))),
  (27,8,(.sil 0 (.sil 1 (.sil 2 (.sil 3 (.sil 4 (.eff 5 (.eff 6 (.sil 7 .stop))))))))),
  (27,13,(.sil 0 (.sil 1 (.sil 2 (.sil 3 (.sil 4 (.sil 6 (.sil 7 (.sil 8 (.sil 9 (.sil 10 (.sil 11 (.eff 5 (.sil 12 (.eff 13 (.sil 14 .stop)))))))))))))))),
  (28,8,(.sil 0 (.sil 1 (.sil 2 (.sil 3 (.sil 4 (.sil 5 (.sil 6 (.eff 7 (.eff 8 (.sil 9 (.eff 10 .stop)))))))))))),
  (28,17,(.sil 0 (.sil 1 (.sil 2 (.sil 3 (.sil 4 (.eff 5 (.eff 6 (.sil 7 (.sil 8 (.sil 9 (.sil 10 (.sil 11 (.eff 12 (.sil 13 (.sil 14 (.sil 15 (.sil 16 (.sil 17 (.sil 18 (.sil 19 (.sil 20 (.sil 21 (.sil 22 (.eff 23 (.sil 24 (.sil 25 (.sil 26 .stop)))))))))))))))))))))))))))),
  (28,20,(.sil 0 (.sil 1 (.sil 2 (.sil 5 (.sil 6 (.eff 3 (.eff 4 (.sil 7 (.eff 8 (.eff 9 .stop))))))))))),
  (31,6,(.sil 0 (.sil 1 (.sil 2 (.sil 3 (.sil 4 (.sil 5 (.sil 6 (.sil 7 (.sil 8 (.sil 9 (.sil 10 .stop)))))))))))),
  (32,1,(.sil 0 (.sil 1 (.sil 2 (.sil 3 (.sil 4 (.sil 5 (.sil 6 (.sil 7 (.sil 8 (.sil 9 (.sil 10 (.sil 11 (.sil 12 (.sil 13 (.alt (.eff 14 (.eff 15 (.eff 16 (.eff 17 .stop)))) (.eff 15 (.eff 14 (.eff 16 (.eff 17 .stop)))))))))))))))))))),
  (32,5,(.sil 0 (.sil 1 (.sil 2 (.sil 3 (.sil 4 (.sil 5 (.sil 6 .stop)))))))),
  (32,7,(.sil 0 (.sil 1 (.sil 2 (.sil 3 (.sil 4 (.sil 5 (.sil 6 .stop)))))))),
  (35,6,(.sil 0 (.sil 1 (.sil 2 (.sil 3 (.sil 4 (.sil 5 (.eff 6 (.sil 7 (.sil 8 (.sil 9 (.sil 10 (.sil 11 (.sil 12 (.sil 13 (.sil 14 (.sil 15 (.sil 16 (.sil 17 (.sil 18 (.sil 19 (.sil 20 (.sil 21 (.sil 22 (.sil 23 (.sil 24 (.sil 25 (.sil 26 (.sil 27 (.sil 28 (.sil 29 (.sil 30 (.sil 31 (.sil 32 (.sil 33 (.sil 34 (.sil 35 (.sil 36 .stop)))))))))))))))))))))))))))))))))))))),
  (35,11,(.sil 0 (.sil 1 (.sil 2 (.sil 3 (.sil 4 (.eff 5 (.sil 6 (.sil 7 (.sil 8 (.sil 9 (.sil 10 (.sil 11 (.sil 12 (.sil 13 (.sil 14 (.sil 15 (.sil 16 (.sil 17 (.sil 18 (.sil 19 (.sil 20 (.sil 21 (.sil 22 (.sil 23 (.eff 24 (.sil 25 (.sil 26 (.sil 27 .stop))))))))))))))))))))))))))))),
  (36,1,(.sil 0 (.sil 1 (.sil 2 (.sil 3 (.sil 4 (.sil 5 (.sil 6 (.sil 7 (.sil 8 (.sil 9 (.sil 10 .stop)))))))))))),
  (37,6,(.sil 0 (.sil 1 (.sil 2 (.sil 3 (.alt (.eff 4 (.sil 5 (.sil 6 (.eff 7 (.eff 8 .stop))))) (.eff 7 (.eff 4 (.sil 5 (.sil 6 (.eff 8 .stop))))))))))),
  (37,8,(.sil 0 (.sil 1 (.sil 2 (.sil 3 (.sil 4 (.sil 5 (.sil 6 (.sil 7 (.eff 8 .stop)))))))))),
  (37,12,(.sil 0 (.sil 3 (.sil 4 (.sil 5 (.sil 6 (.sil 7 (.eff 1 (.sil 2 (.eff 8 (.sil 9 (.eff 10 .stop)))))))))))),
  (44,1,(.sil 0 (.sil 1 (.sil 2 (.sil 3 (.sil 4 (.eff 5 (.eff 6 (.sil 7 .stop))))))))),
  (44,8,(.sil 0 (.sil 1 (.sil 2 (.sil 3 (.sil 4 (.sil 5 (.sil 6 (.sil 7 (.sil 8 (.sil 9 (.sil 10 (.sil 11 .stop))))))))))))),
  (44,10,(.sil 0 (.sil 1 (.sil 2 (.sil 3 (.sil 4 (.sil 5 (.sil 6 (.sil 7 .stop))))))))),
  (45,9,(.sil 0 (.sil 1 (.sil 2 (.sil 3 (.sil 4 (.sil 5 (.sil 6 (.sil 7 (.sil 8 (.sil 9 (.sil 10 (.sil 11 (.sil 12 (.sil 13 (.sil 14 (.sil 15 (.sil 16 (.sil 17 (.sil 18 (.sil 19 (.sil 20 (.sil 21 (.sil 22 (.sil 23 (.sil 24 (.sil 25 (.sil 26 (.sil 27 (.sil 28 (.sil 29 (.sil 30 (.sil 31 (.sil 32 (.sil 33 (.sil 34 .stop)))))))))))))))))))))))))))))))))))),
  (46,9,(.sil 0 (.sil 2 (.alt (.eff 1 (.eff 3 (.sil 4 (.eff 5 (.sil 6 (.eff 7 .stop)))))) (.eff 3 (.sil 4 (.alt (.eff 1 (.eff 5 (.sil 6 (.eff 7 .stop)))) (.eff 5 (.eff 1 (.sil 6 (.eff 7 .stop))))))))))),
  (49,3,(.sil 0 (.sil 1 (.sil 3 (.sil 4 (.sil 6 (.sil 7 (.sil 8 (.eff 2 (.eff 5 (.eff 9 (.sil 10 .stop)))))))))))),
  (49,8,(.sil 0 (.sil 1 (.sil 2 (.sil 4 (.sil 5 (.sil 7 (.sil 8 (.sil 10 (.sil 11 (.sil 12 (.eff 3 (.eff 6 (.eff 9 (.eff 13 (.sil 14 .stop)))))))))))))))),
  (49,13,(.sil 0 (.sil 1 (.sil 2 (.sil 4 (.sil 5 (.sil 6 (.sil 8 (.sil 9 (.sil 10 (.sil 12 (.sil 13 (.sil 14 (.eff 3 (.eff 7 (.eff 11 (.eff 15 (.sil 16 .stop)))))))))))))))))),
  (50,3,(.sil 1 (.sil 3 (.alt (.eff 0 (.alt (.eff 2 (.eff 4 (.eff 5 (.sil 6 (.sil 7 .stop))))) (.eff 4 (.eff 2 (.eff 5 (.sil 6 (.sil 7 .stop))))))) (.eff 4 (.eff 0 (.eff 2 (.eff 5 (.sil 6 (.sil 7 .stop)))))))))),
  (51,3,(.sil 1 (.sil 2 (.sil 3 (.sil 5 (.sil 6 (.sil 7 (.sil 8 (.sil 10 (.sil 11 (.sil 12 (.sil 13 (.eff 0 (.eff 4 (.eff 9 (.sil 14 (.eff 15 (.sil 16 .stop)))))))))))))))))),
  (52,23,(.sil 0 (.sil 1 (.sil 2 (.eff 3 (.eff 4 (.eff 5 (.sil 6 (.eff 7 .stop))))))))),
  (52,31,(.sil 0 (.sil 1 (.sil 2 (.sil 3 (.sil 6 (.sil 7 (.sil 8 (.sil 9 (.sil 10 (.sil 11 (.eff 4 (.eff 5 (.sil 12 (.eff 13 (.sil 14 (.sil 15 (.eff 16 .stop)))))))))))))))))),
  (53,17,(.sil 0 (.sil 1 (.sil 2 (.sil 3 (.sil 4 (.sil 5 (.eff 6 (.eff 7 (.sil 8 .stop)))))))))),
  (53,18,(.sil 0 (.sil 1 (.eff 2 (.sil 3 (.sil 4 (.sil 5 (.sil 6 (.sil 7 (.sil 9 (.sil 10 (.eff 8 (.sil 11 (.sil 12 .stop)))))))))))))),
  (58,9,(.sil 0 (.sil 1 (.eff 2 (.sil 3 (.sil 4 (.sil 5 (.sil 6 (.sil 7 (.sil 9 (.sil 10 (.eff 8 (.sil 11 (.sil 12 .stop)))))))))))))),
  (58,11,(.sil 0 (.sil 1 (.sil 3 (.eff 2 (.eff 4 (.eff 5 (.sil 6 .stop)))))))),
  (61,1,(.sil 0 (.sil 1 (.sil 2 (.sil 3 (.sil 5 (.sil 6 (.sil 7 (.sil 8 (.sil 10 (.sil 11 (.sil 12 (.sil 13 (.eff 4 (.eff 9 (.eff 14 (.eff 15 (.eff 16 (.sil 17 .stop))))))))))))))))))),
  (66,6,(.sil 0 (.sil 1 (.sil 2 (.sil 3 (.sil 4 (.sil 5 (.sil 6 (.sil 7 (.eff 8 (.sil 9 .stop))))))))))),
  (67,6,(.sil 0 (.sil 1 (.sil 2 (.sil 3 (.sil 4 (.sil 5 (.sil 6 (.sil 7 (.eff 8 (.sil 9 .stop))))))))))),
  (68,6,(.sil 0 (.sil 1 (.sil 2 (.sil 3 (.sil 4 (.sil 5 (.sil 6 (.sil 7 (.sil 8 .stop)))))))))),
  (69,6,(.sil 0 (.sil 1 (.sil 2 (.sil 3 (.sil 4 (.sil 5 (.sil 6 (.sil 7 (.sil 8 .stop)))))))))),
  (71,7,(.sil 0 (.sil 1 (.sil 2 (.sil 3 (.sil 4 (.sil 5 (.sil 6 (.sil 7 (.sil 8 (.sil 9 (.sil 10 (.sil 11 (.sil 12 (.sil 13 (.sil 14 (.sil 15 (.sil 16 (.sil 17 (.sil 18 (.sil 19 (.sil 20 (.sil 21 (.sil 22 (.sil 23 (.sil 24 (.sil 25 (.sil 26 (.sil 27 (.sil 28 (.sil 29 (.sil 30 (.sil 31 (.sil 32 (.sil 33 .stop))))))))))))))))))))))))))))))))))),
  (72,8,(.sil 0 (.sil 1 (.sil 2 (.eff 3 (.sil 4 (.eff 5 .stop))))))),
  (72,9,(.sil 1 (.sil 7 (.sil 10 (.alt (.eff 0 (.alt (.eff 2 (.sil 3 (.sil 4 (.sil 5 (.alt (.eff 6 (.sil 14 (.alt (.eff 8 (.alt (.eff 9 (.eff 11 (.sil 12 (.sil 13 (.eff 15 (.sil 16 (.eff 17 (.sil 18 (.eff 19 .stop))))))))) (.eff 11 (.alt (.eff 9 (.sil 12 (.sil 13 (.eff 15 (.sil 16 (.eff 17 (.sil 18 (.eff 19 .stop)))))))) (.eff 15 (.sil 16 (.alt (.eff 9 (.sil 12 (.sil 13 (.eff 17 (.sil 18 (.eff 19 .stop)))))) (.eff 17 (.eff 9 (.sil 12 (.sil 13 (.sil 18 (.eff 19 .stop))))))))))))) (.eff 9 (.eff 8 (.eff 11 (.sil 12 (.sil 13 (.eff 15 (.sil 16 (.eff 17 (.sil 18 (.eff 19 .stop))))))))))))) (.alt (.eff 8 (.alt (.eff 6 (.sil 14 (.alt (.eff 9 (.eff 11 (.sil 12 (.sil 13 (.eff 15 (.sil 16 (.eff 17 (.sil 18 (.eff 19 .stop))))))))) (.eff 11 (.alt (.eff 9 (.sil 12 (.sil 13 (.eff 15 (.sil 16 (.eff 17 (.sil 18 (.eff 19 .stop)))))))) (.eff 15 (.sil 16 (.alt (.eff 9 (.sil 12 (.sil 13 (.eff 17 (.sil 18 (.eff 19 .stop)))))) (.eff 17 (.eff 9 (.sil 12 (.sil 13 (.sil 18 (.eff 19 .stop)))))))))))))) (.alt (.eff 9 (.alt (.eff 6 (.sil 14 (.eff 11 (.sil 12 (.sil 13 (.eff 15 (.sil 16 (.eff 17 (.sil 18 (.eff 19 .stop)))))))))) (.eff 11 (.sil 12 (.sil 13 (.eff 6 (.sil 14 (.eff 15 (.sil 16 (.eff 17 (.sil 18 (.eff 19 .stop)))))))))))) (.eff 11 (.alt (.eff 6 (.sil 14 (.alt (.eff 9 (.sil 12 (.sil 13 (.eff 15 (.sil 16 (.eff 17 (.sil 18 (.eff 19 .stop)))))))) (.eff 15 (.sil 16 (.alt (.eff 9 (.sil 12 (.sil 13 (.eff 17 (.sil 18 (.eff 19 .stop)))))) (.eff 17 (.eff 9 (.sil 12 (.sil 13 (.sil 18 (.eff 19 .stop)))))))))))) (.eff 9 (.sil 12 (.sil 13 (.eff 6 (.sil 14 (.eff 15 (.sil 16 (.eff 17 (.sil 18 (.eff 19 .stop))))))))))))))) (.eff 9 (.alt (.eff 6 (.sil 14 (.eff 8 (.eff 11 (.sil 12 (.sil 13 (.eff 15 (.sil 16 (.eff 17 (.sil 18 (.eff 19 .stop))))))))))) (.eff 8 (.alt (.eff 6 (.sil 14 (.eff 11 (.sil 12 (.sil 13 (.eff 15 (.sil 16 (.eff 17 (.sil 18 (.eff 19 .stop)))))))))) (.eff 11 (.sil 12 (.sil 13 (.eff 6 (.sil 14 (.eff 15 (.sil 16 (.eff 17 (.sil 18 (.eff 19 .stop)))))))))))))))))))) (.eff 9 (.eff 2 (.sil 3 (.sil 4 (.sil 5 (.alt (.eff 6 (.sil 14 (.eff 8 (.eff 11 (.sil 12 (.sil 13 (.eff 15 (.sil 16 (.eff 17 (.sil 18 (.eff 19 .stop))))))))))) (.eff 8 (.alt (.eff 6 (.sil 14 (.eff 11 (.sil 12 (.sil 13 (.eff 15 (.sil 16 (.eff 17 (.sil 18 (.eff 19 .stop)))))))))) (.eff 11 (.sil 12 (.sil 13 (.eff 6 (.sil 14 (.eff 15 (.sil 16 (.eff 17 (.sil 18 (.eff 19 .stop)))))))))))))))))))) (.alt (.eff 2 (.alt (.eff 0 (.sil 3 (.sil 4 (.sil 5 (.alt (.eff 6 (.sil 14 (.alt (.eff 8 (.alt (.eff 9 (.eff 11 (.sil 12 (.sil 13 (.eff 15 (.sil 16 (.eff 17 (.sil 18 (.eff 19 .stop))))))))) (.eff 11 (.alt (.eff 9 (.sil 12 (.sil 13 (.eff 15 (.sil 16 (.eff 17 (.sil 18 (.eff 19 .stop)))))))) (.eff 15 (.sil 16 (.alt (.eff 9 (.sil 12 (.sil 13 (.eff 17 (.sil 18 (.eff 19 .stop)))))) (.eff 17 (.eff 9 (.sil 12 (.sil 13 (.sil 18 (.eff 19 .stop))))))))))))) (.eff 9 (.eff 8 (.eff 11 (.sil 12 (.sil 13 (.eff 15 (.sil 16 (.eff 17 (.sil 18 (.eff 19 .stop))))))))))))) (.alt (.eff 8 (.alt (.eff 6 (.sil 14 (.alt (.eff 9 (.eff 11 (.sil 12 (.sil 13 (.eff 15 (.sil 16 (.eff 17 (.sil 18 (.eff 19 .stop))))))))) (.eff 11 (.alt (.eff 9 (.sil 12 (.sil 13 (.eff 15 (.sil 16 (.eff 17 (.sil 18 (.eff 19 .stop)))))))) (.eff 15 (.sil 16 (.alt (.eff 9 (.sil 12 (.sil 13 (.eff 17 (.sil 18 (.eff 19 .stop)))))) (.eff 17 (.eff 9 (.sil 12 (.sil 13 (.sil 18 (.eff 19 .stop)))))))))))))) (.alt (.eff 9 (.alt (.eff 6 (.sil 14 (.eff 11 (.sil 12 (.sil 13 (.eff 15 (.sil 16 (.eff 17 (.sil 18 (.eff 19 .stop)))))))))) (.eff 11 (.sil 12 (.sil 13 (.eff 6 (.sil 14 (.eff 15 (.sil 16 (.eff 17 (.sil 18 (.eff 19 .stop)))))))))))) (.eff 11 (.alt (.eff 6 (.sil 14 (.alt (.eff 9 (.sil 12 (.sil 13 (.eff 15 (.sil 16 (.eff 17 (.sil 18 (.eff 19 .stop)))))))) (.eff 15 (.sil 16 (.alt (.eff 9 (.sil 12 (.sil 13 (.eff 17 (.sil 18 (.eff 19 .stop)))))) (.eff 17 (.eff 9 (.sil 12 (.sil 13 (.sil 18 (.eff 19 .stop)))))))))))) (.eff 9 (.sil 12 (.sil 13 (.eff 6 (.sil 14 (.eff 15 (.sil 16 (.eff 17 (.sil 18 (.eff 19 .stop))))))))))))))) (.eff 9 (.alt (.eff 6 (.sil 14 (.eff 8 (.eff 11 (.sil 12 (.sil 13 (.eff 15 (.sil 16 (.eff 17 (.sil 18 (.eff 19 .stop))))))))))) (.eff 8 (.alt (.eff 6 (.sil 14 (.eff 11 (.sil 12 (.sil 13 (.eff 15 (.sil 16 (.eff 17 (.sil 18 (.eff 19 .stop)))))))))) (.eff 11 (.sil 12 (.sil 13 (.eff 6 (.sil 14 (.eff 15 (.sil 16 (.eff 17 (.sil 18 (.eff 19 .stop)))))))))))))))))))) (.alt (.eff 8 (.alt (.eff 0 (.sil 3 (.sil 4 (.sil 5 (.alt (.eff 6 (.sil 14 (.alt (.eff 9 (.eff 11 (.sil 12 (.sil 13 (.eff 15 (.sil 16 (.eff 17 (.sil 18 (.eff 19 .stop))))))))) (.eff 11 (.alt (.eff 9 (.sil 12 (.sil 13 (.eff 15 (.sil 16 (.eff 17 (.sil 18 (.eff 19 .stop)))))))) (.eff 15 (.sil 16 (.alt (.eff 9 (.sil 12 (.sil 13 (.eff 17 (.sil 18 (.eff 19 .stop)))))) (.eff 17 (.eff 9 (.sil 12 (.sil 13 (.sil 18 (.eff 19 .stop)))))))))))))) (.alt (.eff 9 (.alt (.eff 6 (.sil 14 (.eff 11 (.sil 12 (.sil 13 (.eff 15 (.sil 16 (.eff 17 (.sil 18 (.eff 19 .stop)))))))))) (.eff 11 (.sil 12 (.sil 13 (.eff 6 (.sil 14 (.eff 15 (.sil 16 (.eff 17 (.sil 18 (.eff 19 .stop)))))))))))) (.eff 11 (.alt (.eff 6 (.sil 14 (.alt (.eff 9 (.sil 12 (.sil 13 (.eff 15 (.sil 16 (.eff 17 (.sil 18 (.eff 19 .stop)))))))) (.eff 15 (.sil 16 (.alt (.eff 9 (.sil 12 (.sil 13 (.eff 17 (.sil 18 (.eff 19 .stop)))))) (.eff 17 (.eff 9 (.sil 12 (.sil 13 (.sil 18 (.eff 19 .stop)))))))))))) (.eff 9 (.sil 12 (.sil 13 (.eff 6 (.sil 14 (.eff 15 (.sil 16 (.eff 17 (.sil 18 (.eff 19 .stop)))))))))))))))))) (.alt (.eff 9 (.alt (.eff 0 (.sil 3 (.sil 4 (.sil 5 (.alt (.eff 6 (.sil 14 (.eff 11 (.sil 12 (.sil 13 (.eff 15 (.sil 16 (.eff 17 (.sil 18 (.eff 19 .stop)))))))))) (.eff 11 (.sil 12 (.sil 13 (.eff 6 (.sil 14 (.eff 15 (.sil 16 (.eff 17 (.sil 18 (.eff 19 .stop))))))))))))))) (.eff 11 (.sil 12 (.sil 13 (.eff 0 (.sil 3 (.sil 4 (.sil 5 (.eff 6 (.sil 14 (.eff 15 (.sil 16 (.eff 17 (.sil 18 (.eff 19 .stop)))))))))))))))) (.eff 11 (.alt (.eff 0 (.sil 3 (.sil 4 (.sil 5 (.alt (.eff 6 (.sil 14 (.alt (.eff 9 (.sil 12 (.sil 13 (.eff 15 (.sil 16 (.eff 17 (.sil 18 (.eff 19 .stop)))))))) (.eff 15 (.sil 16 (.alt (.eff 9 (.sil 12 (.sil 13 (.eff 17 (.sil 18 (.eff 19 .stop)))))) (.eff 17 (.eff 9 (.sil 12 (.sil 13 (.sil 18 (.eff 19 .stop)))))))))))) (.eff 9 (.sil 12 (.sil 13 (.eff 6 (.sil 14 (.eff 15 (.sil 16 (.eff 17 (.sil 18 (.eff 19 .stop))))))))))))))) (.eff 9 (.sil 12 (.sil 13 (.eff 0 (.sil 3 (.sil 4 (.sil 5 (.eff 6 (.sil 14 (.eff 15 (.sil 16 (.eff 17 (.sil 18 (.eff 19 .stop))))))))))))))))))) (.eff 9 (.alt (.eff 0 (.sil 3 (.sil 4 (.sil 5 (.alt (.eff 6 (.sil 14 (.eff 8 (.eff 11 (.sil 12 (.sil 13 (.eff 15 (.sil 16 (.eff 17 (.sil 18 (.eff 19 .stop))))))))))) (.eff 8 (.alt (.eff 6 (.sil 14 (.eff 11 (.sil 12 (.sil 13 (.eff 15 (.sil 16 (.eff 17 (.sil 18 (.eff 19 .stop)))))))))) (.eff 11 (.sil 12 (.sil 13 (.eff 6 (.sil 14 (.eff 15 (.sil 16 (.eff 17 (.sil 18 (.eff 19 .stop))))))))))))))))) (.eff 8 (.alt (.eff 0 (.sil 3 (.sil 4 (.sil 5 (.alt (.eff 6 (.sil 14 (.eff 11 (.sil 12 (.sil 13 (.eff 15 (.sil 16 (.eff 17 (.sil 18 (.eff 19 .stop)))))))))) (.eff 11 (.sil 12 (.sil 13 (.eff 6 (.sil 14 (.eff 15 (.sil 16 (.eff 17 (.sil 18 (.eff 19 .stop))))))))))))))) (.eff 11 (.sil 12 (.sil 13 (.eff 0 (.sil 3 (.sil 4 (.sil 5 (.eff 6 (.sil 14 (.eff 15 (.sil 16 (.eff 17 (.sil 18 (.eff 19 .stop))))))))))))))))))))) (.eff 9 (.alt (.eff 0 (.eff 2 (.sil 3 (.sil 4 (.sil 5 (.alt (.eff 6 (.sil 14 (.eff 8 (.eff 11 (.sil 12 (.sil 13 (.eff 15 (.sil 16 (.eff 17 (.sil 18 (.eff 19 .stop))))))))))) (.eff 8 (.alt (.eff 6 (.sil 14 (.eff 11 (.sil 12 (.sil 13 (.eff 15 (.sil 16 (.eff 17 (.sil 18 (.eff 19 .stop)))))))))) (.eff 11 (.sil 12 (.sil 13 (.eff 6 (.sil 14 (.eff 15 (.sil 16 (.eff 17 (.sil 18 (.eff 19 .stop)))))))))))))))))) (.eff 2 (.alt (.eff 0 (.sil 3 (.sil 4 (.sil 5 (.alt (.eff 6 (.sil 14 (.eff 8 (.eff 11 (.sil 12 (.sil 13 (.eff 15 (.sil 16 (.eff 17 (.sil 18 (.eff 19 .stop))))))))))) (.eff 8 (.alt (.eff 6 (.sil 14 (.eff 11 (.sil 12 (.sil 13 (.eff 15 (.sil 16 (.eff 17 (.sil 18 (.eff 19 .stop)))))))))) (.eff 11 (.sil 12 (.sil 13 (.eff 6 (.sil 14 (.eff 15 (.sil 16 (.eff 17 (.sil 18 (.eff 19 .stop))))))))))))))))) (.eff 8 (.alt (.eff 0 (.sil 3 (.sil 4 (.sil 5 (.alt (.eff 6 (.sil 14 (.eff 11 (.sil 12 (.sil 13 (.eff 15 (.sil 16 (.eff 17 (.sil 18 (.eff 19 .stop)))))))))) (.eff 11 (.sil 12 (.sil 13 (.eff 6 (.sil 14 (.eff 15 (.sil 16 (.eff 17 (.sil 18 (.eff 19 .stop))))))))))))))) (.eff 11 (.sil 12 (.sil 13 (.eff 0 (.sil 3 (.sil 4 (.sil 5 (.eff 6 (.sil 14 (.eff 15 (.sil 16 (.eff 17 (.sil 18 (.eff 19 .stop)))))))))))))))))))))))))),
  (73,6,(.sil 0 (.sil 1 (.sil 2 (.sil 3 (.sil 4 (.sil 5 .stop))))))),
  (73,8,(.sil 0 (.sil 1 (.sil 2 (.sil 3 (.sil 4 (.sil 5 (.sil 6 (.sil 7 (.sil 8 (.sil 9 (.sil 10 (.sil 11 (.sil 12 (.sil 13 (.sil 14 (.sil 15 (.sil 16 (.sil 17 (.sil 18 (.sil 19 (.sil 20 (.sil 21 (.sil 22 (.sil 23 (.sil 24 (.sil 25 (.sil 26 (.sil 27 (.sil 28 (.sil 29 (.sil 30 (.sil 31 .stop))))))))))))))))))))))))))))))))),
  (75,11,(.sil 0 (.sil 1 (.sil 2 (.sil 3 (.sil 4 (.sil 5 (.sil 6 (.sil 7 (.sil 9 (.sil 10 (.eff 8 (.eff 11 (.sil 12 (.sil 13 (.eff 14 (.sil 15 (.sil 16 (.eff 17 .stop))))))))))))))))))),
  (76,2,(.sil 0 (.sil 1 (.sil 2 (.sil 3 (.sil 4 (.eff 5 (.eff 6 (.sil 7 .stop))))))))),
  (78,16,(.sil 0 (.sil 1 (.sil 2 (.sil 3 (.sil 4 (.sil 5 (.sil 6 (.sil 7 (.sil 8 (.sil 9 (.sil 10 (.sil 11 (.sil 12 (.sil 13 (.sil 14 (.sil 15 (.sil 16 .stop)))))))))))))))))),
  (78,17,(.sil 0 (.sil 1 (.sil 2 (.sil 3 (.sil 4 (.sil 5 (.sil 6 (.sil 7 (.sil 8 (.sil 9 (.sil 10 (.sil 11 (.sil 12 (.sil 13 (.sil 14 (.sil 15 (.sil 16 (.sil 17 (.sil 18 (.sil 19 (.sil 20 (.sil 21 (.sil 22 (.sil 23 .stop))))))))))))))))))))))))),
  (79,4,(.sil 0 (.sil 1 (.sil 3 (.sil 4 (.eff 2 (.sil 5 .stop))))))),
  (79,7,(.sil 0 (.sil 1 (.sil 2 (.sil 3 (.sil 4 (.sil 5 (.sil 7 (.eff 6 (.eff 8 (.sil 9 (.eff 10 (.sil 11 (.eff 12 .stop)))))))))))))),
  (80,8,(.sil 0 (.sil 1 (.sil 3 (.eff 2 (.eff 4 (.eff 5 (.sil 6 .stop)))))))),
  (81,2,(.sil 1 (.sil 2 (.sil 4 (.alt (.eff 0 (.alt (.eff 3 (.eff 5 (.eff 6 (.sil 7 (.eff 8 .stop))))) (.eff 5 (.eff 3 (.eff 6 (.sil 7 (.eff 8 .stop))))))) (.eff 5 (.eff 0 (.eff 3 (.eff 6 (.sil 7 (.eff 8 .stop))))))))))),
  (84,3,(.sil 0 (.sil 1 (.sil 2 (.sil 4 (.sil 5 (.sil 6 (.sil 8 (.sil 9 (.sil 10 (.sil 12 (.sil 13 (.sil 14 (.eff 3 (.eff 7 (.eff 11 (.eff 15 (.sil 16 .stop)))))))))))))))))),
  (84,4,(.sil 0 (.sil 1 (.sil 2 (.sil 5 (.sil 6 (.sil 7 (.eff 3 (.eff 4 (.eff 8 (.sil 9 .stop))))))))))),
  (84,8,(.sil 0 (.sil 1 (.sil 2 (.sil 3 (.sil 4 (.sil 5 (.sil 6 (.sil 8 (.sil 9 (.sil 10 (.sil 11 (.sil 12 (.sil 13 (.eff 7 (.eff 14 (.sil 15 .stop))))))))))))))))),
  (84,9,(.sil 0 (.sil 1 (.sil 2 (.sil 4 (.sil 5 (.eff 3 (.eff 6 (.sil 7 .stop))))))))),
  (88,18,(.sil 0 (.sil 3 (.sil 4 (.sil 5 (.sil 6 (.eff 1 (.sil 2 (.sil 7 .stop))))))))),
  (89,8,(.sil 0 (.sil 1 (.sil 2 (.sil 3 (.sil 4 (.sil 5 (.sil 6 (.sil 7 (.sil 8 (.sil 9 (.sil 10 (.sil 11 (.sil 12 (.sil 13 (.sil 14 (.sil 15 (.sil 16 (.sil 17 (.sil 18 (.sil 19 (.sil 20 (.sil 21 (.sil 22 (.sil 23 .stop))))))))))))))))))))))))),
  (91,8,(.sil 0 (.sil 1 (.sil 2 (.sil 3 (.sil 4 (.sil 5 (.sil 6 (.sil 7 (.sil 8 (.sil 9 (.sil 10 (.sil 11 (.sil 12 (.sil 13 (.sil 14 (.sil 15 (.eff 16 .stop)))))))))))))))))),
  (92,5,(.sil 0 (.sil 1 (.sil 2 (.sil 3 (.sil 4 (.sil 5 (.sil 6 (.sil 7 (.sil 8 (.sil 9 (.sil 10 (.sil 11 (.eff 12 (.eff 13 (.sil 14 .stop)))))))))))))))),
  (94,11,(.sil 0 (.sil 1 (.sil 2 (.sil 3 (.sil 4 (.eff 5 (.sil 6 (.sil 7 (.sil 8 (.sil 9 (.sil 10 (.sil 11 (.eff 12 (.sil 13 (.sil 14 .stop)))))))))))))))),
  (94,13,(.sil 0 (.sil 1 (.sil 2 (.sil 3 (.sil 4 (.eff 5 (.sil 6 (.sil 7 (.sil 8 (.sil 9 (.sil 10 (.sil 11 (.eff 12 (.sil 13 (.sil 14 .stop)))))))))))))))),
  (94,15,(.sil 0 (.sil 1 (.sil 2 (.sil 3 (.sil 4 (.eff 5 (.sil 6 (.sil 7 .stop))))))))),
  (95,5,(.sil 0 (.sil 1 (.sil 2 (.sil 3 (.sil 4 (.sil 5 (.sil 6 (.sil 7 (.sil 8 (.sil 9 (.sil 10 (.sil 11 (.sil 12 (.sil 13 (.sil 14 (.eff 15 (.sil 16 (.sil 17 .stop))))))))))))))))))),
  (96,9,(.sil 0 (.sil 1 (.sil 2 (.sil 3 (.sil 4 (.sil 5 (.sil 6 (.sil 7 (.sil 8 (.sil 9 (.sil 10 (.sil 11 .stop))))))))))))),
  (96,11,(.sil 0 (.sil 1 (.sil 2 (.sil 3 (.sil 4 (.sil 5 (.sil 6 (.sil 7 .stop))))))))),
  (97,6,(.sil 0 (.sil 1 (.sil 2 (.sil 3 (.sil 4 (.sil 5 (.eff 6 (.sil 7 (.sil 8 (.sil 9 (.sil 10 (.sil 11 (.sil 12 (.sil 13 (.eff 14 (.sil 15 (.sil 16 .stop)))))))))))))))))),
  (99,2,(.sil 0 (.sil 1 (.sil 2 (.sil 3 (.sil 4 (.sil 5 (.sil 6 (.eff 7 (.sil 8 (.eff 9 .stop))))))))))),
  (99,4,(.sil 0 (.sil 1 (.sil 2 (.sil 3 (.sil 4 (.sil 5 (.sil 6 (.sil 8 (.sil 9 (.sil 10 (.eff 7 (.sil 11 (.eff 12 (.sil 13 (.eff 14 .stop)))))))))))))))),
  (105,6,(.sil 0 (.sil 1 (.sil 2 (.sil 3 (.sil 4 (.sil 5 (.sil 6 (.sil 7 (.sil 8 (.sil 9 (.sil 10 (.sil 11 (.sil 12 (.sil 13 (.sil 14 (.sil 15 (.sil 16 (.sil 17 (.sil 18 (.sil 19 .stop))))))))))))))))))))),
  (105,7,(.sil 0 (.sil 1 (.sil 2 (.sil 3 (.sil 7 (.sil 8 (.eff 4 (.eff 5 (.eff 6 (.sil 9 (.sil 10 .stop)))))))))))),
  (105,8,(.sil 0 (.sil 1 (.sil 2 (.sil 3 (.sil 4 (.sil 5 (.sil 6 (.sil 7 (.sil 8 (.sil 9 (.sil 10 (.sil 11 (.sil 12 (.sil 13 (.sil 14 .stop)))))))))))))))),
  (105,9,(.sil 0 (.sil 1 (.sil 2 (.sil 3 (.sil 7 (.sil 8 (.eff 4 (.eff 5 (.eff 6 (.sil 9 (.sil 10 .stop)))))))))))),
  (105,3,(.sil 0 (.sil 1 (.sil 2 (.sil 3 (.sil 4 (.sil 5 (.sil 6 .stop)))))))),
  (105,5,(.sil 0 (.sil 1 (.sil 5 (.sil 6 (.sil 7 (.sil 8 (.eff 2 (.eff 3 (.eff 4 (.sil 9 (.sil 10 (.sil 11 .stop))))))))))))),
  (106,9,(.sil 0 (.sil 1 (.sil 2 (.sil 3 (.sil 4 (.eff 5 (.sil 6 (.sil 7 .stop))))))))),
  (107,4,(.sil 0 (.sil 1 (.sil 2 (.sil 3 (.sil 4 (.sil 5 (.sil 6 (.sil 7 (.sil 8 (.sil 9 (.sil 10 (.sil 11 (.sil 12 (.sil 13 (.sil 14 (.sil 15 (.sil 16 (.sil 17 (.sil 18 (.sil 19 (.eff 20 (.sil 21 (.sil 22 (.sil 23 (.sil 24 (.sil 25 (.sil 26 (.sil 27 (.sil 28 (.sil 29 (.sil 30 (.sil 31 (.sil 32 (.sil 33 (.sil 34 (.sil 35 (.sil 36 (.sil 37 (.sil 38 (.sil 39 (.sil 40 .stop)))))))))))))))))))))))))))))))))))))))))),
  (117,11,(.sil 0 (.sil 1 (.sil 2 (.sil 3 (.sil 4 (.sil 5 (.sil 6 (.sil 7 (.eff 8 .stop)))))))))),
  (117,15,(.sil 0 (.sil 1 (.sil 2 (.sil 3 (.sil 4 (.sil 5 (.sil 6 (.sil 7 (.eff 8 .stop)))))))))),
  (125,7,(.sil 0 (.sil 1 (.sil 2 (.sil 3 (.sil 4 (.sil 5 (.sil 6 (.sil 7 (.sil 9 (.sil 10 (.eff 8 (.eff 11 (.sil 12 (.sil 13 .stop))))))))))))))),
  (125,14,(.sil 0 (.sil 1 (.sil 2 (.sil 3 (.sil 4 (.sil 5 (.sil 6 (.sil 7 (.sil 8 (.sil 9 .stop))))))))))),
  (127,4,(.sil 0 (.sil 1 (.sil 2 (.sil 3 (.sil 4 (.sil 5 (.sil 6 (.sil 7 (.sil 8 (.sil 9 (.sil 10 (.sil 11 (.sil 12 (.sil 13 (.eff 14 (.sil 15 (.sil 16 .stop)))))))))))))))))),
  (127,6,(.sil 0 (.sil 1 (.sil 2 (.sil 3 (.sil 4 (.sil 5 (.sil 6 (.sil 7 (.sil 8 (.sil 9 (.sil 10 (.sil 11 (.sil 12 (.sil 13 (.sil 14 (.eff 15 (.sil 16 (.eff 17 .stop))))))))))))))))))),
  (128,5,(.sil 0 (.sil 1 (.sil 2 (.sil 3 (.sil 4 (.sil 5 (.sil 6 (.sil 7 (.sil 8 (.eff 9 (.sil 10 .stop)))))))))))),
  (128,11,(.sil 0 (.sil 1 (.sil 2 (.sil 3 (.sil 4 (.sil 5 (.sil 6 (.sil 7 (.sil 8 (.sil 9 (.sil 10 (.sil 11 (.sil 12 (.sil 13 (.sil 14 (.eff 15 (.sil 16 (.eff 17 .stop))))))))))))))))))),
  (128,17,(.sil 0 (.sil 1 (.sil 2 (.sil 3 (.sil 4 (.sil 5 (.sil 6 (.sil 7 (.sil 8 (.eff 9 (.sil 10 (.sil 11 .stop))))))))))))),
  (128,23,(.sil 0 (.sil 1 (.sil 2 (.sil 3 (.sil 4 (.sil 5 (.sil 6 (.sil 7 (.sil 8 (.sil 9 (.sil 10 (.sil 11 (.sil 12 (.sil 13 (.sil 14 (.eff 15 (.sil 16 (.eff 17 .stop))))))))))))))))))),
  (128,35,(.sil 0 (.sil 1 (.sil 2 (.sil 3 (.sil 4 (.sil 5 (.sil 6 (.sil 7 (.sil 8 (.sil 9 (.sil 10 (.eff 11 (.sil 12 (.sil 13 .stop))))))))))))))),
  (129,1,(.sil 0 (.sil 1 (.sil 3 (.sil 4 (.eff 2 (.sil 6 (.eff 5 (.eff 7 (.sil 8 (.eff 9 .stop))))))))))),
  (131,3,(.sil 0 (.sil 1 (.eff 2 (.eff 3 (.sil 4 (.eff 5 .stop))))))),
  (137,21,(.sil 0 (.sil 1 (.sil 2 (.sil 3 (.sil 4 (.sil 5 .stop))))))),
  (138,3,(.sil 0 (.sil 1 (.eff 2 (.eff 3 (.sil 4 (.eff 5 .stop))))))),
  (139,1,(.sil 0 (.sil 1 (.sil 2 (.sil 3 (.sil 4 (.sil 5 (.sil 6 (.sil 7 (.sil 8 (.sil 9 (.sil 10 (.sil 11 (.sil 12 (.sil 13 (.sil 14 (.sil 15 (.sil 16 (.sil 17 (.sil 18 (.sil 19 (.sil 20 (.sil 21 (.sil 22 (.sil 23 (.sil 24 (.sil 25 (.sil 26 (.sil 27 (.sil 28 (.sil 29 (.sil 30 (.sil 31 (.sil 32 (.sil 33 (.sil 34 (.sil 35 (.sil 36 (.sil 37 (.sil 38 (.sil 39 (.sil 40 (.sil 41 (.sil 42 (.sil 43 (.sil 44 .stop)))))))))))))))))))))))))))))))))))))))))))))),
  (141,3,(.sil 0 (.sil 1 (.sil 2 (.sil 3 (.sil 4 (.sil 5 (.sil 6 (.sil 7 (.sil 8 (.sil 9 (.sil 10 (.sil 11 (.sil 12 (.sil 13 (.sil 14 (.sil 15 (.sil 16 (.sil 17 (.sil 18 (.sil 19 (.sil 20 (.eff 21 (.sil 22 (.eff 23 .stop))))))))))))))))))))))))),
  (144,11,(.sil 0 (.sil 1 (.sil 2 (.sil 3 (.sil 4 (.sil 5 (.sil 6 (.sil 7 (.sil 8 (.sil 9 (.sil 10 (.sil 11 (.sil 12 (.sil 13 (.sil 14 (.sil 15 (.sil 16 (.sil 17 (.sil 18 (.sil 19 (.sil 20 (.sil 21 (.sil 22 (.sil 23 .stop))))))))))))))))))))))))),
  (144,15,(.sil 0 (.sil 1 (.sil 2 (.sil 3 (.sil 4 (.sil 5 (.sil 6 (.sil 7 (.sil 8 (.sil 9 (.sil 10 (.sil 11 (.sil 12 (.eff 13 .stop))))))))))))))),
  (145,3,(.sil 0 (.sil 1 (.sil 2 (.sil 3 (.sil 4 (.sil 5 (.sil 6 (.sil 7 (.sil 8 (.sil 9 (.sil 10 (.sil 11 (.sil 12 (.eff 13 (.sil 14 (.eff 15 .stop))))))))))))))))),
  (147,3,(.sil 0 (.sil 1 (.sil 2 (.sil 3 (.sil 4 (.sil 5 (.sil 6 (.sil 7 (.sil 8 (.sil 9 (.sil 10 (.sil 11 (.sil 12 (.sil 13 (.sil 14 (.sil 15 (.sil 16 (.sil 17 (.sil 18 (.sil 19 (.sil 20 (.sil 21 (.sil 22 (.sil 23 (.sil 24 (.sil 25 (.sil 26 (.sil 27 (.sil 28 (.sil 29 (.sil 30 (.sil 31 (.sil 32 (.sil 33 (.sil 34 (.sil 35 (.sil 36 (.sil 37 (.sil 38 .stop)))))))))))))))))))))))))))))))))))))))),
  (147,7,(.sil 0 (.sil 1 (.sil 2 (.sil 3 (.sil 4 (.sil 5 (.sil 6 (.sil 7 (.sil 8 (.sil 9 (.sil 10 (.sil 11 (.sil 12 .stop))))))))))))))]
def Tryz.lives : List (Nat × Nat × List (Nat × Nat)) := [
  (3,9,[(5,1),(6,0)]),
  (4,8,[(1,0),(6,0),(7,0)]),
  (4,13,[(6,0),(8,0),(9,0)]),
  (4,17,[(6,0),(8,0),(9,0),(10,0),(11,0)]),
  (4,23,[(6,0),(8,0),(9,0),(10,0),(12,1),(13,0)]),
  (5,7,[(1,0),(2,0),(3,1),(4,1),(5,0)]),
  (6,7,[(1,0),(2,0),(7,0),(8,0)]),
  (6,10,[(1,0),(2,0),(7,0),(8,0),(9,0)]),
  (7,8,[(5,0),(6,0),(7,0)]),
  (7,16,[(5,0),(6,0),(7,0),(8,0),(10,0),(11,0)]),
  (7,24,[(5,0),(6,0),(7,0),(8,0),(10,0),(15,0)]),
  (8,7,[(3,0),(4,0)]),
  (8,15,[(3,0),(4,0),(5,0),(7,0),(8,0)]),
  (11,2,[(0,0),(2,0),(4,0),(6,0),(7,0)]),
  (14,3,[(1,0),(2,0),(3,0),(4,0)]),
  (15,2,[(1,0),(2,0),(8,1),(9,0),(10,0)]),
  (15,5,[(1,0),(2,0),(4,0),(8,1),(9,0),(10,0),(15,1),(16,0),(17,0)]),
  (16,3,[(1,0),(3,0),(4,0)]),
  (16,6,[(1,0),(3,0),(4,0),(5,0)]),
  (17,2,[(1,0),(2,0),(8,1),(9,0),(10,0)]),
  (17,5,[(1,0),(2,0),(4,0),(8,1),(9,0),(10,0),(15,1),(16,0),(17,0)]),
  (18,4,[(1,0),(3,0),(4,1),(5,0)]),
  (18,7,[(1,0),(3,0),(4,1),(5,0),(6,0)]),
  (21,3,[(1,0),(3,1),(4,0)]),
  (22,5,[(0,0),(3,0),(8,0),(10,0),(11,0)]),
  (27,6,[(1,0),(2,0),(3,0),(6,0),(8,1),(9,10),(23,1),(24,0),(25,0)]),
  (28,5,[(1,0),(2,0),(3,0),(6,0),(8,0),(9,0)]),
  (28,11,[(2,0),(3,0),(6,0),(8,0),(10,1),(11,0)]),
  (28,14,[(2,0),(3,0),(6,0),(8,0),(10,1),(11,0),(12,0),(13,0),(14,0)]),
  (30,2,[(0,1),(1,0),(4,0),(6,0)]),
  (31,4,[(2,0),(3,0),(5,0)]),
  (32,3,[(5,0),(6,0),(7,0)]),
  (33,2,[(0,1),(1,0),(4,0),(5,0)]),
  (35,4,[(1,0),(2,0),(5,0)]),
  (35,9,[(2,0),(6,0)]),
  (38,3,[(0,0),(1,0),(5,4),(6,0)]),
  (38,7,[(0,0),(1,0),(5,4),(7,0)]),
  (42,2,[(2,1),(6,1),(7,0),(8,0)]),
  (44,6,[(0,1),(3,0),(5,6),(6,0),(7,0)]),
  (45,4,[(0,0),(1,1),(5,0)]),
  (45,13,[(0,0),(7,1),(8,0)]),
  (46,5,[(0,0),(1,0),(6,0),(8,0),(9,0)]),
  (48,2,[(0,1),(1,0),(2,0),(7,0)]),
  (49,5,[(2,0),(6,3),(7,0)]),
  (49,10,[(2,0),(6,3),(7,0),(8,0),(9,0)]),
  (49,15,[(2,0),(6,3),(7,0),(8,0),(11,0)]),
  (49,20,[(2,0),(6,3),(12,0)]),
  (52,7,[(0,1),(1,0),(4,104069000),(6,1000),(7,104069000),(8,0)]),
  (52,13,[(0,1),(1,0),(4,104069000),(6,1000),(7,104069000),(8,0),(9,129100000),(10,0)]),
  (52,21,[(0,1),(1,0),(4,104069000),(6,1000),(7,104069000),(8,0),(9,129100000),(12,0)]),
  (52,26,[(0,1),(1,0),(4,104069000),(6,1000),(7,104069000),(13,0)]),
  (53,13,[(3,0),(4,0),(6,0),(7,0),(8,0),(10,0),(11,0)]),
  (65,2,[(2,7),(6,1),(7,0),(8,0)]),
  (66,4,[(0,1),(1,1),(5,0)]),
  (67,4,[(0,1),(1,1),(5,0)]),
  (68,4,[(0,1),(1,1),(5,0)]),
  (69,4,[(0,1),(1,1),(5,0)]),
  (70,9,[(1,0),(2,0),(8,0)]),
  (71,4,[(1,0),(3,0)]),
  (73,4,[(0,1),(3,0),(5,4),(6,0),(7,0)]),
  (75,3,[(1,0),(2,0),(3,10),(11,10),(12,0),(13,0)]),
  (75,9,[(1,0),(2,0),(33,7),(34,0),(35,0)]),
  (78,3,[(0,0),(1,1),(2,0),(7,3),(8,0)]),
  (78,8,[(1,1),(7,3),(9,0)]),
  (78,11,[(1,1),(7,3),(9,0),(10,0)]),
  (78,14,[(1,1),(7,3),(9,0),(10,0),(11,0)]),
  (82,2,[(1,0),(5,3)]),
  (84,6,[(0,1),(3,0),(5,0)]),
  (85,3,[(0,1),(3,0),(4,0)]),
  (85,6,[(0,1),(3,0),(4,0),(5,0)]),
  (88,8,[(0,1),(2,0),(5,0),(6,0),(7,0)]),
  (89,3,[(1,1),(5,7),(6,0)]),
  (89,6,[(1,1),(5,7),(6,0),(7,0)]),
  (91,3,[(0,1),(1,0),(5,3),(6,0)]),
  (91,6,[(0,1),(1,0),(5,3),(6,0),(7,0)]),
  (92,3,[(0,1),(3,6),(4,0)]),
  (95,3,[(2,0),(3,0),(4,0),(7,0),(8,0)]),
  (96,7,[(0,1),(3,0),(7,10),(8,0),(9,0)]),
  (97,4,[(1,0),(2,0),(3,0),(4,10),(5,0)]),
  (100,2,[(0,1),(1,0),(7,0),(8,0)]),
  (102,3,[(3,0),(6,1),(7,0),(8,0)]),
  (104,2,[(0,10),(1,0),(2,0),(6,0),(7,0),(8,0)]),
  (104,7,[(0,10),(1,0),(2,0),(6,0)]),
  (104,9,[(0,10),(1,0),(2,0),(6,0),(7,0),(8,0)]),
  (105,1,[(0,1),(1,1),(4,7)]),
  (107,2,[(0,1),(3,0)]),
  (109,2,[(0,0),(1,0),(5,0)]),
  (118,3,[(0,1),(1,0),(2,0),(8,0),(9,0),(10,0)]),
  (121,3,[(0,1),(5,0),(6,0),(7,0)]),
  (123,2,[(1,0),(2,0),(6,0)]),
  (125,4,[(2,0),(3,0),(5,0),(6,1),(7,0)]),
  (125,12,[(2,0),(3,0),(5,0),(6,1),(7,0),(8,0),(9,0)]),
  (127,1,[(0,10),(1,0),(2,0),(3,0),(8,0)]),
  (127,4,[(0,10),(1,0),(2,0),(3,0),(8,0),(9,0)]),
  (128,3,[(0,10),(1,0),(4,0),(10,0),(11,0)]),
  (128,9,[(0,10),(10,0),(13,0)]),
  (128,15,[(0,10),(2,0),(4,0),(14,0),(15,0)]),
  (128,21,[(0,10),(14,0),(17,0)]),
  (128,33,[(0,10),(1,0),(2,0),(3,0),(4,0),(18,0),(19,0),(20,0),(21,0),(22,0)]),
  (130,5,[(0,0),(5,6),(6,0)]),
  (131,2,[(0,0),(2,0),(3,0)]),
  (133,3,[(1,0),(3,0),(4,0)]),
  (136,2,[(0,10),(2,0),(4,0),(10,0),(11,0)]),
  (137,3,[(0,0),(2,0),(4,0)]),
  (137,10,[(0,0),(2,0),(4,0),(5,0)]),
  (137,19,[(0,0),(2,0),(6,0),(7,0)]),
  (138,2,[(0,0),(2,0),(3,0)]),
  (141,1,[(0,10),(1,0),(2,0),(3,0),(10,0)]),
  (145,1,[(0,6),(2,0),(3,0)])]
def Tryz.digs : List (Nat × Nat × List Dig) := [
  (3,11,[(some 28,[5],[]),(some 29,[6],[]),(some 30,[28,29],[0,1]),(some 31,[30],[2]),(some 32,[31],[3]),(some 33,[5],[]),(some 34,[6],[]),(some 35,[33,34],[5,6]),(some 36,[35],[7]),(some 37,[36],[8,4]),(some 38,[32,37],[4,9]),(some 39,[38],[10,9]),(some 40,[5,39],[11]),(some 41,[6,39],[11]),(some 42,[40,41,39],[12,13,11]),(some 43,[42,39],[14,11]),(some 44,[43,39],[15,11,11]),(some 45,[5,39],[11]),(some 46,[6,39],[11]),(some 47,[45,46,39],[17,18,11]),(some 48,[47,39],[19,11]),(some 49,[48,39],[20,16,11]),(some 50,[44,49,39],[16,21,11]),(some 51,[39,50],[11,22]),(some 52,[51],[23,21]),(some 53,[5,52],[24]),(some 54,[6,52],[24]),(some 55,[53,54,52],[25,26,24]),(some 56,[55,52],[27,24]),(some 57,[56,52],[28,24,24]),(some 58,[5,52],[24]),(some 59,[6,52],[24]),(some 60,[58,59,52],[30,31,24]),(some 61,[60,52],[32,24]),(some 62,[61,52],[33,29,24]),(some 63,[57,62,52],[29,34,24]),(some 64,[52,63],[24,35])]),
  (7,20,[(some 76,[14],[]),(some 77,[76],[0]),(some 78,[77],[1]),(some 79,[12,78],[2]),(some 80,[13,78],[2]),(some 81,[79,80,78],[3,4,2,2]),(some 82,[81,78],[5,2]),(some 83,[78,82],[2,6]),(some 84,[83],[7,5]),(some 85,[11,84],[8]),(some 86,[85,84],[9,8]),(some 87,[86,84],[10,8,8]),(some 88,[8,87],[11]),(some 89,[88,87],[12,11]),(some 90,[11,87],[11]),(some 91,[90,87],[14,11]),(some 92,[89,91,87],[13,15,11]),(some 93,[92,87],[16,11]),(some 94,[93,87],[17,11]),(some 95,[12,87],[11]),(some 96,[95,87],[19,11]),(some 97,[94,96,87],[18,20,11,11]),(some 98,[97,87],[21,11]),(some 99,[87,98,84],[11,22,8]),(some 100,[84,99],[8,23]),(some 101,[100],[24,21]),(some 102,[12,101],[25]),(some 103,[102,101],[26,25]),(some 104,[5,101],[25]),(some 105,[104,101],[28,25]),(some 106,[7,101],[25]),(some 107,[106,101],[30,25]),(some 108,[105,107,101],[29,31,25]),(some 109,[108,101],[32,25]),(some 110,[109,101],[33,25]),(some 111,[12,101],[25]),(some 112,[111,101],[35,25]),(some 113,[110,112,101],[34,36,25,25]),(some 114,[103,113,101],[27,37,37,25]),(some 115,[114,101],[38,25]),(some 116,[101,115],[25,39])]),
  (28,17,[(some 93,[15],[]),(some 94,[93],[0]),(some 95,[10],[]),(some 96,[15],[]),(some 97,[96],[3]),(some 98,[95,97],[2,4]),(some 99,[94,98],[1,5,5]),(some 100,[99],[6]),(some 101,[100],[7,6]),(some 102,[15,101],[8]),(some 103,[102,101],[9,8]),(some 104,[11,101],[8]),(some 105,[103,104,101],[10,11,8,8]),(some 106,[105,101],[12,8]),(some 107,[101,106],[8,13]),(some 108,[107],[14,12]),(some 109,[13,108],[15]),(some 110,[109,108],[16,15]),(some 111,[110,108],[17,15,15]),(some 112,[15,111],[18]),(some 113,[112,111],[19,18]),(some 114,[12,111],[18]),(some 115,[114,111],[21,18]),(some 116,[113,115,111],[20,22,18,18]),(some 117,[116,111],[23,18]),(some 118,[111,117,108],[18,24,15]),(some 119,[108,118],[15,25])]),
  (35,6,[(some 47,[2],[]),(some 48,[47],[0]),(some 49,[5],[]),(some 50,[48,49],[1,2]),(some 51,[50],[3]),(some 52,[1],[]),(some 53,[51,52],[4,5]),(some 54,[53],[6]),(some 55,[54],[7,6]),(some 56,[2,55],[8]),(some 57,[56,55],[9,8]),(some 58,[5,55],[8]),(some 59,[57,58,55],[10,11,8]),(some 60,[59,55],[12,8]),(some 61,[60,55],[13,8]),(some 62,[61,55],[14,8]),(some 63,[55,62],[8,15]),(some 64,[63],[16,8]),(some 65,[5,64],[17]),(some 66,[65,64],[18,17]),(some 67,[66,64],[19,17,17]),(some 68,[2,67],[20]),(some 69,[68,67],[21,20]),(some 70,[5,67],[20]),(some 71,[69,70,67],[22,23,20]),(some 72,[71,67],[24,20]),(some 73,[72,67],[25,20]),(some 74,[2,67],[20]),(some 75,[74,67],[27,20]),(some 76,[5,67],[20]),(some 77,[76,67],[29,20]),(some 78,[75,77,67],[28,30,20]),(some 79,[78,67],[31,20]),(some 80,[79,67],[32,20]),(some 81,[73,80,67],[26,33,20]),(some 82,[67,81,64],[20,34,17]),(some 83,[64,82],[17,35])]),
  (35,11,[(some 91,[2],[]),(some 92,[91],[0]),(some 93,[6],[]),(some 94,[92,93],[1,2]),(some 95,[94],[3]),(some 96,[95],[4]),(some 97,[96],[5]),(some 98,[97],[6,5]),(some 99,[6,98],[7]),(some 100,[99,98],[8,7]),(some 101,[100,98],[9,7,7]),(some 102,[2,101],[10]),(some 103,[102,101],[11,10]),(some 104,[6,101],[10]),(some 105,[104,101],[13,10]),(some 106,[103,105,101],[12,14,10]),(some 107,[106,101],[15,10]),(some 108,[107,101],[16,10]),(some 109,[2,101],[10]),(some 110,[109,101],[18,10]),(some 111,[6,101],[10]),(some 112,[110,111,101],[19,20,10]),(some 113,[112,101],[21,10]),(some 114,[113,101],[22,10]),(some 115,[108,114,101],[17,23,10,10]),(some 116,[115,101],[24,10]),(some 117,[101,116,98],[10,25,7]),(some 118,[98,117],[7,26])]),
  (45,9,[(some 41,[5],[]),(some 42,[41],[0]),(some 43,[42],[1]),(some 44,[1,43],[2]),(some 45,[5,43],[2]),(some 46,[45,43],[4,2]),(some 47,[44,46,43],[3,5,2]),(some 48,[47,43],[6,2]),(some 49,[48,43],[7,2]),(some 50,[6,43],[2]),(some 51,[50,43],[9,2]),(some 52,[49,51,43],[8,10,2]),(some 53,[52,43],[11,2,2]),(some 54,[1,53],[12]),(some 55,[5,53],[12]),(some 56,[55,53],[14,12]),(some 57,[54,56,53],[13,15,12]),(some 58,[57,53],[16,12]),(some 59,[58,53],[17,12]),(some 60,[6,53],[12]),(some 61,[60,53],[19,12]),(some 62,[59,61,53],[18,20,12]),(some 63,[62,53],[21,12,12]),(some 64,[1,63],[22]),(some 65,[5,63],[22]),(some 66,[65,63],[24,22]),(some 67,[64,66,63],[23,25,22]),(some 68,[67,63],[26,22]),(some 69,[68,63],[27,22]),(some 70,[6,63],[22]),(some 71,[70,63],[29,22]),(some 72,[69,71,63],[28,30,22]),(some 73,[63,72,53],[22,31,12]),(some 74,[53,73,43],[12,32,2]),(some 75,[43,74],[2,33])]),
  (71,7,[(some 58,[4],[]),(some 59,[58],[0]),(some 60,[59],[1]),(some 61,[60],[2]),(some 62,[4,61],[3]),(some 63,[62,61],[4,3]),(some 64,[63,61],[5,3]),(some 65,[61,64],[3,6]),(some 66,[65],[7,3]),(some 67,[4,66],[8]),(some 68,[67,66],[9,8]),(some 69,[68,66],[10,8]),(some 70,[66,69],[8,11]),(some 71,[70],[12,8]),(some 72,[4,71],[13]),(some 73,[72,71],[14,13]),(some 74,[73,71],[15,13]),(some 75,[71,74],[13,16]),(some 76,[75],[17,13]),(some 77,[3,76],[18]),(some 78,[77,76],[19,18]),(some 79,[78,76],[20,18,18]),(some 80,[4,79],[21]),(some 81,[80,79],[22,21]),(some 82,[1,79],[21]),(some 83,[82,79],[24,21]),(some 84,[3,79],[21]),(some 85,[84,79],[26,21]),(some 86,[83,85,79],[25,27,21]),(some 87,[86,79],[28,21]),(some 88,[87,79],[29,21]),(some 89,[81,88,79],[23,30,21]),(some 90,[79,89,76],[21,31,18]),(some 91,[76,90],[18,32])]),
  (73,8,[(some 21,[6],[]),(some 22,[21],[0]),(some 23,[22],[1]),(some 24,[0,23],[2]),(some 25,[7,23],[2]),(some 26,[24,25,23],[3,4,2]),(some 27,[26,23],[5,2]),(some 28,[27,23],[6,2]),(some 29,[3,23],[2]),(some 30,[29,23],[8,2]),(some 31,[28,30,23],[7,9,2]),(some 32,[31,23],[10,2,2]),(some 33,[0,32],[11]),(some 34,[7,32],[11]),(some 35,[33,34,32],[12,13,11]),(some 36,[35,32],[14,11]),(some 37,[36,32],[15,11]),(some 38,[3,32],[11]),(some 39,[38,32],[17,11]),(some 40,[37,39,32],[16,18,11]),(some 41,[40,32],[19,11,11]),(some 42,[0,41],[20]),(some 43,[7,41],[20]),(some 44,[42,43,41],[21,22,20]),(some 45,[44,41],[23,20]),(some 46,[45,41],[24,20]),(some 47,[3,41],[20]),(some 48,[47,41],[26,20]),(some 49,[46,48,41],[25,27,20]),(some 50,[41,49,32],[20,28,11]),(some 51,[32,50,23],[11,29,2]),(some 52,[23,51],[2,30])]),
  (78,17,[(some 54,[7],[]),(some 55,[12],[]),(some 56,[54,55],[0,1]),(some 57,[56],[2]),(some 58,[57],[3]),(some 59,[58],[4]),(some 60,[7,59],[5]),(some 61,[13,59],[5]),(some 62,[60,61,59],[6,7,5]),(some 63,[62,59],[8,5]),(some 64,[63,59],[9,5]),(some 65,[64,59],[10,5,5]),(some 66,[7,65],[11]),(some 67,[13,65],[11]),(some 68,[66,67,65],[12,13,11]),(some 69,[68,65],[14,11]),(some 70,[7,65],[11]),(some 71,[12,65],[11]),(some 72,[70,71,65],[16,17,11]),(some 73,[72,65],[18,11]),(some 74,[73,65],[19,11]),(some 75,[69,74,65],[15,20,11]),(some 76,[65,75,59],[11,21,5]),(some 77,[59,76],[5,22])]),
  (89,8,[(some 23,[5],[]),(some 24,[7],[]),(some 25,[23,24],[0,1]),(some 26,[25],[2]),(some 27,[26],[3]),(some 28,[1],[]),(some 29,[6],[]),(some 30,[28,29],[5,6]),(some 31,[30],[7]),(some 32,[31],[8]),(some 33,[27,32],[4,9]),(some 34,[33],[10]),(some 35,[1,34],[11]),(some 36,[6,34],[11]),(some 37,[35,36,34],[12,13,11]),(some 38,[37,34],[14,11]),(some 39,[38,34],[15,11]),(some 40,[5,34],[11]),(some 41,[7,34],[11]),(some 42,[40,41,34],[17,18,11]),(some 43,[42,34],[19,11]),(some 44,[43,34],[20,11]),(some 45,[39,44,34],[16,21,11]),(some 46,[34,45],[11,22])]),
  (107,4,[(some 10,[0],[]),(some 11,[3],[]),(some 12,[10,11],[0,1]),(some 13,[12],[2]),(some 14,[13],[3]),(some 15,[14],[4]),(some 16,[15],[5]),(some 17,[0,16],[6]),(some 18,[3,16],[6]),(some 19,[17,18,16],[7,8,6]),(some 20,[19,16],[9,6]),(some 21,[20,16],[10,6]),(some 22,[21,16],[11,6]),(some 23,[16,22],[6,12]),(some 24,[23],[13,6]),(some 25,[0,24],[14]),(some 26,[3,24],[14]),(some 27,[25,26,24],[15,16,14]),(some 28,[27,24],[17,14]),(some 29,[28,24],[18,14]),(some 30,[29,24],[19,14,14]),(some 31,[30,24],[20,14]),(some 32,[24,31],[14,21]),(some 33,[32],[22,20]),(some 34,[3,33],[23]),(some 35,[34,33],[24,23]),(some 36,[35,33],[25,23,23]),(some 37,[0,36],[26]),(some 38,[3,36],[26]),(some 39,[37,38,36],[27,28,26]),(some 40,[39,36],[29,26]),(some 41,[40,36],[30,26]),(some 42,[0,36],[26]),(some 43,[3,36],[26]),(some 44,[43,36],[33,26]),(some 45,[42,44,36],[32,34,26]),(some 46,[45,36],[35,26]),(some 47,[46,36],[36,26]),(some 48,[41,47,36],[31,37,26]),(some 49,[36,48,33],[26,38,23]),(some 50,[33,49],[23,39])]),
  (139,1,[(some 5,[0],[]),(some 6,[5],[0]),(some 7,[6],[1]),(some 8,[7],[2]),(some 9,[8],[3]),(some 10,[0,9],[4]),(some 11,[10,9],[5,4]),(some 12,[11,9],[6,4]),(some 13,[12,9],[7,4]),(some 14,[0,9],[4]),(some 15,[14,9],[9,4]),(some 16,[15,9],[10,4]),(some 17,[16,9],[11,4]),(some 18,[17,9],[12,4]),(some 19,[13,18,9],[8,13,4]),(some 20,[9,19],[4,14]),(some 21,[20],[15,4]),(some 22,[0,21],[16]),(some 23,[22,21],[17,16]),(some 24,[23,21],[18,16]),(some 25,[24,21],[19,16]),(some 26,[0,21],[16]),(some 27,[26,21],[21,16]),(some 28,[27,21],[22,16]),(some 29,[28,21],[23,16]),(some 30,[25,29,21],[20,24,16]),(some 31,[30,21],[25,16]),(some 32,[31,21],[26,16]),(some 33,[32,21],[27,16]),(some 34,[21,33],[16,28]),(some 35,[34],[29,16]),(some 36,[0,35],[30]),(some 37,[36,35],[31,30]),(some 38,[37,35],[32,30]),(some 39,[38,35],[33,30]),(some 40,[0,35],[30]),(some 41,[40,35],[35,30]),(some 42,[41,35],[36,30]),(some 43,[42,35],[37,30]),(some 44,[39,43,35],[34,38,30]),(some 45,[44,35],[39,30]),(some 46,[45,35],[40,30]),(some 47,[1,35],[30]),(some 48,[46,47,35],[41,42,30]),(some 49,[35,48],[30,43])]),
  (141,3,[(some 16,[0],[]),(some 17,[1],[]),(some 18,[10],[]),(some 19,[17,18],[1,2]),(some 20,[0],[]),(some 21,[2],[]),(some 22,[10],[]),(some 23,[21,22],[5,6]),(some 24,[0],[]),(some 25,[2],[]),(some 26,[10],[]),(some 27,[25,26],[9,10]),(some 28,[24,27],[8,11]),(some 29,[28],[12]),(some 30,[0],[]),(some 31,[1],[]),(some 32,[10],[]),(some 33,[31,32],[15,16]),(some 34,[30,33],[14,17]),(some 35,[34],[18]),(some 36,[16,19],[0,3,0,1,2,3,8,9,10,11,12,13,19]),(none,[36,29],[20,13,0,1,2,3,8,9,10,11,12,13,19]),(some 37,[20,23],[4,7,0,1,2,3,4,5,6,7,8,9,10,11,12,13,14,15,16,17,18,19,20,21]),(none,[37,35],[22,19,21,0,1,2,3,4,5,6,7,8,9,10,11,12,13,14,15,16,17,18,19,20,21])]),
  (144,11,[(some 33,[0],[]),(some 34,[33],[0]),(some 35,[34],[1]),(some 36,[35],[2]),(some 37,[0],[]),(some 38,[37],[4]),(some 39,[38],[5]),(some 40,[39],[6]),(some 41,[40],[7]),(some 42,[36,41],[3,8]),(some 43,[42],[9]),(some 44,[0,43],[10]),(some 45,[44,43],[11,10]),(some 46,[45,43],[12,10]),(some 47,[46,43],[13,10]),(some 48,[0,43],[10]),(some 49,[48,43],[15,10]),(some 50,[49,43],[16,10]),(some 51,[50,43],[17,10]),(some 52,[47,51,43],[14,18,10]),(some 53,[52,43],[19,10]),(some 54,[53,43],[20,10]),(some 55,[54,43],[21,10]),(some 56,[43,55],[10,22])]),
  (147,3,[(some 9,[0],[]),(some 10,[9],[0]),(some 11,[10],[1]),(some 12,[11],[2]),(some 13,[0],[]),(some 14,[13],[4]),(some 15,[14],[5]),(some 16,[15],[6]),(some 17,[16],[7]),(some 18,[12,17],[3,8]),(some 19,[18],[9]),(some 20,[0,19],[10]),(some 21,[20,19],[11,10]),(some 22,[21,19],[12,10]),(some 23,[22,19],[13,10]),(some 24,[0,19],[10]),(some 25,[24,19],[15,10]),(some 26,[25,19],[16,10]),(some 27,[26,19],[17,10]),(some 28,[23,27,19],[14,18,10]),(some 29,[28,19],[19,10]),(some 30,[29,19],[20,10]),(some 31,[30,19],[21,10]),(some 32,[19,31],[10,22]),(some 33,[32],[23,10]),(some 34,[0,33],[24]),(some 35,[34,33],[25,24]),(some 36,[35,33],[26,24]),(some 37,[36,33],[27,24]),(some 38,[0,33],[24]),(some 39,[38,33],[29,24]),(some 40,[39,33],[30,24]),(some 41,[40,33],[31,24]),(some 42,[37,41,33],[28,32,24]),(some 43,[42,33],[33,24]),(some 44,[43,33],[34,24]),(some 45,[1,33],[24]),(some 46,[44,45,33],[35,36,24]),(some 47,[33,46],[24,37])])]

def Tryz.nilszs : List (Nat × Nat) := [(10,0),(62,2),(82,1),(83,1),(84,1),(113,8),(114,5),(115,4),(116,1)]
def Tryz.globs : List (Nat × AV) := []
noncomputable def Tryz.phi : Phi := fun _ _ => none
def Tryz.cfg : Cfg := { tab := Tryz.tab,live := fun f r => look2 [] Tryz.lives f r,opens := fun f => memN f [11,12,13,26,36,37,38,63,72,86,87,104,110,111,117,127,128,131,132,135,136,138,139,140,141,144,145,146,147],fresh := fun f => memN f [10,62,82,83,84,113,114,115,116],nilsz := fun f => (look1 Tryz.nilszs f).getD 0,plan := fun f r => look2 .stop Tryz.plans f r,glob := fun g => look1 Tryz.globs g }
def Tryz.X : Ctx := { cfg := Tryz.cfg,call := SoundCall Go.Proofs.Tryz.prog Tryz.phi,meth := IsMeth Go.Proofs.Tryz.prog,ta := Asserts Go.Proofs.Tryz.prog }
set_option maxRecDepth 100000
theorem Tryz.tabOk : tabB Go.Proofs.Tryz.prog Tryz.tab Tryz.tab = true := by kernel_rfl
theorem Tryz.mixed : Go.Proofs.Tryz.prog.follows .mixedOrders = true := by kernel_rfl
theorem Tryz.ok : CtxOk Go.Proofs.Tryz.prog Tryz.phi Tryz.X := ⟨tabB_ok Tryz.tabOk,fun _ _ _ _ h => h,fun _ _ _ _ h => h,fun _ _ _ h => h,Tryz.mixed,fun g v h => by cases h⟩
noncomputable def Tryz.fns : List (Nat × Func) := [(2,Go.Proofs.Tryz.f2),(3,Go.Proofs.Tryz.f3),(4,Go.Proofs.Tryz.f4),(5,Go.Proofs.Tryz.f5),(6,Go.Proofs.Tryz.f6),(7,Go.Proofs.Tryz.f7),(8,Go.Proofs.Tryz.f8),(9,Go.Proofs.Tryz.f9),(10,Go.Proofs.Tryz.f10),(11,Go.Proofs.Tryz.f11),(12,Go.Proofs.Tryz.f12),(13,Go.Proofs.Tryz.f13),(14,Go.Proofs.Tryz.f14),(15,Go.Proofs.Tryz.f15),(16,Go.Proofs.Tryz.f16),(17,Go.Proofs.Tryz.f17),(18,Go.Proofs.Tryz.f18),(19,Go.Proofs.Tryz.f19),(20,Go.Proofs.Tryz.f20),(21,Go.Proofs.Tryz.f21),(22,Go.Proofs.Tryz.f22),(23,Go.Proofs.Tryz.f23),(24,Go.Proofs.Tryz.f24),(25,Go.Proofs.Tryz.f25),(26,Go.Proofs.Tryz.f26),(27,Go.Proofs.Tryz.f27),(28,Go.Proofs.Tryz.f28),(29,Go.Proofs.Tryz.f29),(30,Go.Proofs.Tryz.f30),(31,Go.Proofs.Tryz.f31),(32,Go.Proofs.Tryz.f32),(33,Go.Proofs.Tryz.f33),(34,Go.Proofs.Tryz.f34),(35,Go.Proofs.Tryz.f35),(36,Go.Proofs.Tryz.f36),(37,Go.Proofs.Tryz.f37),(38,Go.Proofs.Tryz.f38),(39,Go.Proofs.Tryz.f39),(40,Go.Proofs.Tryz.f40),(41,Go.Proofs.Tryz.f41),(42,Go.Proofs.Tryz.f42),(43,Go.Proofs.Tryz.f43),(44,Go.Proofs.Tryz.f44),(45,Go.Proofs.Tryz.f45),(46,Go.Proofs.Tryz.f46),(47,Go.Proofs.Tryz.f47),(48,Go.Proofs.Tryz.f48),(49,Go.Proofs.Tryz.f49),(50,Go.Proofs.Tryz.f50),(51,Go.Proofs.Tryz.f51),(52,Go.Proofs.Tryz.f52),(53,Go.Proofs.Tryz.f53),(54,Go.Proofs.Tryz.f54),(55,Go.Proofs.Tryz.f55),(56,Go.Proofs.Tryz.f56),(57,Go.Proofs.Tryz.f57),(58,Go.Proofs.Tryz.f58),(59,Go.Proofs.Tryz.f59),(60,Go.Proofs.Tryz.f60),(61,Go.Proofs.Tryz.f61),(62,Go.Proofs.Tryz.f62),(63,Go.Proofs.Tryz.f63),(64,Go.Proofs.Tryz.f64),(65,Go.Proofs.Tryz.f65),(66,Go.Proofs.Tryz.f66),(67,Go.Proofs.Tryz.f67),(68,Go.Proofs.Tryz.f68),(69,Go.Proofs.Tryz.f69),(70,Go.Proofs.Tryz.f70),(71,Go.Proofs.Tryz.f71),(72,Go.Proofs.Tryz.f72),(73,Go.Proofs.Tryz.f73),(74,Go.Proofs.Tryz.f74),(75,Go.Proofs.Tryz.f75),(76,Go.Proofs.Tryz.f76),(77,Go.Proofs.Tryz.f77),(78,Go.Proofs.Tryz.f78),(79,Go.Proofs.Tryz.f79),(80,Go.Proofs.Tryz.f80),(81,Go.Proofs.Tryz.f81),(82,Go.Proofs.Tryz.f82),(83,Go.Proofs.Tryz.f83),(84,Go.Proofs.Tryz.f84),(85,Go.Proofs.Tryz.f85),(86,Go.Proofs.Tryz.f86),(87,Go.Proofs.Tryz.f87),(88,Go.Proofs.Tryz.f88),(89,Go.Proofs.Tryz.f89),(90,Go.Proofs.Tryz.f90),(91,Go.Proofs.Tryz.f91),(92,Go.Proofs.Tryz.f92),(93,Go.Proofs.Tryz.f93),(94,Go.Proofs.Tryz.f94),(95,Go.Proofs.Tryz.f95),(96,Go.Proofs.Tryz.f96),(97,Go.Proofs.Tryz.f97),(98,Go.Proofs.Tryz.f98),(99,Go.Proofs.Tryz.f99),(100,Go.Proofs.Tryz.f100),(101,Go.Proofs.Tryz.f101),(102,Go.Proofs.Tryz.f102),(103,Go.Proofs.Tryz.f103),(104,Go.Proofs.Tryz.f104),(105,Go.Proofs.Tryz.f105),(106,Go.Proofs.Tryz.f106),(107,Go.Proofs.Tryz.f107),(108,Go.Proofs.Tryz.f108),(109,Go.Proofs.Tryz.f109),(110,Go.Proofs.Tryz.f110),(111,Go.Proofs.Tryz.f111),(112,Go.Proofs.Tryz.f112),(113,Go.Proofs.Tryz.f113),(114,Go.Proofs.Tryz.f114),(115,Go.Proofs.Tryz.f115),(116,Go.Proofs.Tryz.f116),(117,Go.Proofs.Tryz.f117),(118,Go.Proofs.Tryz.f118),(119,Go.Proofs.Tryz.f119),(120,Go.Proofs.Tryz.f120),(121,Go.Proofs.Tryz.f121),(122,Go.Proofs.Tryz.f122),(123,Go.Proofs.Tryz.f123),(124,Go.Proofs.Tryz.f124),(125,Go.Proofs.Tryz.f125),(126,Go.Proofs.Tryz.f126),(127,Go.Proofs.Tryz.f127),(128,Go.Proofs.Tryz.f128),(129,Go.Proofs.Tryz.f129),(130,Go.Proofs.Tryz.f130),(131,Go.Proofs.Tryz.f131),(132,Go.Proofs.Tryz.f132),(133,Go.Proofs.Tryz.f133),(135,Go.Proofs.Tryz.f135),(136,Go.Proofs.Tryz.f136),(137,Go.Proofs.Tryz.f137),(138,Go.Proofs.Tryz.f138),(139,Go.Proofs.Tryz.f139),(140,Go.Proofs.Tryz.f140),(141,Go.Proofs.Tryz.f141),(142,Go.Proofs.Tryz.f142),(143,Go.Proofs.Tryz.f143),(144,Go.Proofs.Tryz.f144),(145,Go.Proofs.Tryz.f145),(146,Go.Proofs.Tryz.f146),(147,Go.Proofs.Tryz.f147)]
theorem Tryz.ok2 : fnB Tryz.cfg Tryz.digs 2 Go.Proofs.Tryz.f2 = true := by kernel_rfl
theorem Tryz.ok3 : fnB Tryz.cfg Tryz.digs 3 Go.Proofs.Tryz.f3 = true := by kernel_rfl
theorem Tryz.ok4 : fnB Tryz.cfg Tryz.digs 4 Go.Proofs.Tryz.f4 = true := by kernel_rfl
theorem Tryz.ok5 : fnB Tryz.cfg Tryz.digs 5 Go.Proofs.Tryz.f5 = true := by kernel_rfl
theorem Tryz.ok6 : fnB Tryz.cfg Tryz.digs 6 Go.Proofs.Tryz.f6 = true := by kernel_rfl
theorem Tryz.ok7 : fnB Tryz.cfg Tryz.digs 7 Go.Proofs.Tryz.f7 = true := by kernel_rfl
theorem Tryz.ok8 : fnB Tryz.cfg Tryz.digs 8 Go.Proofs.Tryz.f8 = true := by kernel_rfl
theorem Tryz.ok9 : fnB Tryz.cfg Tryz.digs 9 Go.Proofs.Tryz.f9 = true := by kernel_rfl
theorem Tryz.ok10 : fnB Tryz.cfg Tryz.digs 10 Go.Proofs.Tryz.f10 = true := by kernel_rfl
theorem Tryz.ok11 : fnB Tryz.cfg Tryz.digs 11 Go.Proofs.Tryz.f11 = true := by kernel_rfl
theorem Tryz.ok12 : fnB Tryz.cfg Tryz.digs 12 Go.Proofs.Tryz.f12 = true := by kernel_rfl
theorem Tryz.ok13 : fnB Tryz.cfg Tryz.digs 13 Go.Proofs.Tryz.f13 = true := by kernel_rfl
theorem Tryz.ok14 : fnB Tryz.cfg Tryz.digs 14 Go.Proofs.Tryz.f14 = true := by kernel_rfl
theorem Tryz.ok15 : fnB Tryz.cfg Tryz.digs 15 Go.Proofs.Tryz.f15 = true := by kernel_rfl
theorem Tryz.ok16 : fnB Tryz.cfg Tryz.digs 16 Go.Proofs.Tryz.f16 = true := by kernel_rfl
theorem Tryz.ok17 : fnB Tryz.cfg Tryz.digs 17 Go.Proofs.Tryz.f17 = true := by kernel_rfl
theorem Tryz.ok18 : fnB Tryz.cfg Tryz.digs 18 Go.Proofs.Tryz.f18 = true := by kernel_rfl
theorem Tryz.ok19 : fnB Tryz.cfg Tryz.digs 19 Go.Proofs.Tryz.f19 = true := by kernel_rfl
theorem Tryz.ok20 : fnB Tryz.cfg Tryz.digs 20 Go.Proofs.Tryz.f20 = true := by kernel_rfl
theorem Tryz.ok21 : fnB Tryz.cfg Tryz.digs 21 Go.Proofs.Tryz.f21 = true := by kernel_rfl
theorem Tryz.ok22 : fnB Tryz.cfg Tryz.digs 22 Go.Proofs.Tryz.f22 = true := by kernel_rfl
theorem Tryz.ok23 : fnB Tryz.cfg Tryz.digs 23 Go.Proofs.Tryz.f23 = true := by kernel_rfl
theorem Tryz.ok24 : fnB Tryz.cfg Tryz.digs 24 Go.Proofs.Tryz.f24 = true := by kernel_rfl
theorem Tryz.ok25 : fnB Tryz.cfg Tryz.digs 25 Go.Proofs.Tryz.f25 = true := by kernel_rfl
theorem Tryz.ok26 : fnB Tryz.cfg Tryz.digs 26 Go.Proofs.Tryz.f26 = true := by kernel_rfl
theorem Tryz.ok27 : fnB Tryz.cfg Tryz.digs 27 Go.Proofs.Tryz.f27 = true := by kernel_rfl
theorem Tryz.ok28 : fnB Tryz.cfg Tryz.digs 28 Go.Proofs.Tryz.f28 = true := by kernel_rfl
theorem Tryz.ok29 : fnB Tryz.cfg Tryz.digs 29 Go.Proofs.Tryz.f29 = true := by kernel_rfl
theorem Tryz.ok30 : fnB Tryz.cfg Tryz.digs 30 Go.Proofs.Tryz.f30 = true := by kernel_rfl
theorem Tryz.ok31 : fnB Tryz.cfg Tryz.digs 31 Go.Proofs.Tryz.f31 = true := by kernel_rfl
theorem Tryz.ok32 : fnB Tryz.cfg Tryz.digs 32 Go.Proofs.Tryz.f32 = true := by kernel_rfl
theorem Tryz.ok33 : fnB Tryz.cfg Tryz.digs 33 Go.Proofs.Tryz.f33 = true := by kernel_rfl
theorem Tryz.ok34 : fnB Tryz.cfg Tryz.digs 34 Go.Proofs.Tryz.f34 = true := by kernel_rfl
theorem Tryz.ok35 : fnB Tryz.cfg Tryz.digs 35 Go.Proofs.Tryz.f35 = true := by kernel_rfl
theorem Tryz.ok36 : fnB Tryz.cfg Tryz.digs 36 Go.Proofs.Tryz.f36 = true := by kernel_rfl
theorem Tryz.ok37 : fnB Tryz.cfg Tryz.digs 37 Go.Proofs.Tryz.f37 = true := by kernel_rfl
theorem Tryz.ok38 : fnB Tryz.cfg Tryz.digs 38 Go.Proofs.Tryz.f38 = true := by kernel_rfl
theorem Tryz.ok39 : fnB Tryz.cfg Tryz.digs 39 Go.Proofs.Tryz.f39 = true := by kernel_rfl
theorem Tryz.ok40 : fnB Tryz.cfg Tryz.digs 40 Go.Proofs.Tryz.f40 = true := by kernel_rfl
theorem Tryz.ok41 : fnB Tryz.cfg Tryz.digs 41 Go.Proofs.Tryz.f41 = true := by kernel_rfl
theorem Tryz.ok42 : fnB Tryz.cfg Tryz.digs 42 Go.Proofs.Tryz.f42 = true := by kernel_rfl
theorem Tryz.ok43 : fnB Tryz.cfg Tryz.digs 43 Go.Proofs.Tryz.f43 = true := by kernel_rfl
theorem Tryz.ok44 : fnB Tryz.cfg Tryz.digs 44 Go.Proofs.Tryz.f44 = true := by kernel_rfl
theorem Tryz.ok45 : fnB Tryz.cfg Tryz.digs 45 Go.Proofs.Tryz.f45 = true := by kernel_rfl
theorem Tryz.ok46 : fnB Tryz.cfg Tryz.digs 46 Go.Proofs.Tryz.f46 = true := by kernel_rfl
theorem Tryz.ok47 : fnB Tryz.cfg Tryz.digs 47 Go.Proofs.Tryz.f47 = true := by kernel_rfl
theorem Tryz.ok48 : fnB Tryz.cfg Tryz.digs 48 Go.Proofs.Tryz.f48 = true := by kernel_rfl
theorem Tryz.ok49 : fnB Tryz.cfg Tryz.digs 49 Go.Proofs.Tryz.f49 = true := by kernel_rfl
theorem Tryz.ok50 : fnB Tryz.cfg Tryz.digs 50 Go.Proofs.Tryz.f50 = true := by kernel_rfl
theorem Tryz.ok51 : fnB Tryz.cfg Tryz.digs 51 Go.Proofs.Tryz.f51 = true := by kernel_rfl
theorem Tryz.ok52 : fnB Tryz.cfg Tryz.digs 52 Go.Proofs.Tryz.f52 = true := by kernel_rfl
theorem Tryz.ok53 : fnB Tryz.cfg Tryz.digs 53 Go.Proofs.Tryz.f53 = true := by kernel_rfl
theorem Tryz.ok54 : fnB Tryz.cfg Tryz.digs 54 Go.Proofs.Tryz.f54 = true := by kernel_rfl
theorem Tryz.ok55 : fnB Tryz.cfg Tryz.digs 55 Go.Proofs.Tryz.f55 = true := by kernel_rfl
theorem Tryz.ok56 : fnB Tryz.cfg Tryz.digs 56 Go.Proofs.Tryz.f56 = true := by kernel_rfl
theorem Tryz.ok57 : fnB Tryz.cfg Tryz.digs 57 Go.Proofs.Tryz.f57 = true := by kernel_rfl
theorem Tryz.ok58 : fnB Tryz.cfg Tryz.digs 58 Go.Proofs.Tryz.f58 = true := by kernel_rfl
theorem Tryz.ok59 : fnB Tryz.cfg Tryz.digs 59 Go.Proofs.Tryz.f59 = true := by kernel_rfl
theorem Tryz.ok60 : fnB Tryz.cfg Tryz.digs 60 Go.Proofs.Tryz.f60 = true := by kernel_rfl
theorem Tryz.ok61 : fnB Tryz.cfg Tryz.digs 61 Go.Proofs.Tryz.f61 = true := by kernel_rfl
theorem Tryz.ok62 : fnB Tryz.cfg Tryz.digs 62 Go.Proofs.Tryz.f62 = true := by kernel_rfl
theorem Tryz.ok63 : fnB Tryz.cfg Tryz.digs 63 Go.Proofs.Tryz.f63 = true := by kernel_rfl
theorem Tryz.ok64 : fnB Tryz.cfg Tryz.digs 64 Go.Proofs.Tryz.f64 = true := by kernel_rfl
theorem Tryz.ok65 : fnB Tryz.cfg Tryz.digs 65 Go.Proofs.Tryz.f65 = true := by kernel_rfl
theorem Tryz.ok66 : fnB Tryz.cfg Tryz.digs 66 Go.Proofs.Tryz.f66 = true := by kernel_rfl
theorem Tryz.ok67 : fnB Tryz.cfg Tryz.digs 67 Go.Proofs.Tryz.f67 = true := by kernel_rfl
theorem Tryz.ok68 : fnB Tryz.cfg Tryz.digs 68 Go.Proofs.Tryz.f68 = true := by kernel_rfl
theorem Tryz.ok69 : fnB Tryz.cfg Tryz.digs 69 Go.Proofs.Tryz.f69 = true := by kernel_rfl
theorem Tryz.ok70 : fnB Tryz.cfg Tryz.digs 70 Go.Proofs.Tryz.f70 = true := by kernel_rfl
theorem Tryz.ok71 : fnB Tryz.cfg Tryz.digs 71 Go.Proofs.Tryz.f71 = true := by kernel_rfl
theorem Tryz.ok72 : fnB Tryz.cfg Tryz.digs 72 Go.Proofs.Tryz.f72 = true := by kernel_rfl
theorem Tryz.ok73 : fnB Tryz.cfg Tryz.digs 73 Go.Proofs.Tryz.f73 = true := by kernel_rfl
theorem Tryz.ok74 : fnB Tryz.cfg Tryz.digs 74 Go.Proofs.Tryz.f74 = true := by kernel_rfl
theorem Tryz.ok75 : fnB Tryz.cfg Tryz.digs 75 Go.Proofs.Tryz.f75 = true := by kernel_rfl
theorem Tryz.ok76 : fnB Tryz.cfg Tryz.digs 76 Go.Proofs.Tryz.f76 = true := by kernel_rfl
theorem Tryz.ok77 : fnB Tryz.cfg Tryz.digs 77 Go.Proofs.Tryz.f77 = true := by kernel_rfl
theorem Tryz.ok78 : fnB Tryz.cfg Tryz.digs 78 Go.Proofs.Tryz.f78 = true := by kernel_rfl
theorem Tryz.ok79 : fnB Tryz.cfg Tryz.digs 79 Go.Proofs.Tryz.f79 = true := by kernel_rfl
theorem Tryz.ok80 : fnB Tryz.cfg Tryz.digs 80 Go.Proofs.Tryz.f80 = true := by kernel_rfl
theorem Tryz.ok81 : fnB Tryz.cfg Tryz.digs 81 Go.Proofs.Tryz.f81 = true := by kernel_rfl
theorem Tryz.ok82 : fnB Tryz.cfg Tryz.digs 82 Go.Proofs.Tryz.f82 = true := by kernel_rfl
theorem Tryz.ok83 : fnB Tryz.cfg Tryz.digs 83 Go.Proofs.Tryz.f83 = true := by kernel_rfl
theorem Tryz.ok84 : fnB Tryz.cfg Tryz.digs 84 Go.Proofs.Tryz.f84 = true := by kernel_rfl
theorem Tryz.ok85 : fnB Tryz.cfg Tryz.digs 85 Go.Proofs.Tryz.f85 = true := by kernel_rfl
theorem Tryz.ok86 : fnB Tryz.cfg Tryz.digs 86 Go.Proofs.Tryz.f86 = true := by kernel_rfl
theorem Tryz.ok87 : fnB Tryz.cfg Tryz.digs 87 Go.Proofs.Tryz.f87 = true := by kernel_rfl
theorem Tryz.ok88 : fnB Tryz.cfg Tryz.digs 88 Go.Proofs.Tryz.f88 = true := by kernel_rfl
theorem Tryz.ok89 : fnB Tryz.cfg Tryz.digs 89 Go.Proofs.Tryz.f89 = true := by kernel_rfl
theorem Tryz.ok90 : fnB Tryz.cfg Tryz.digs 90 Go.Proofs.Tryz.f90 = true := by kernel_rfl
theorem Tryz.ok91 : fnB Tryz.cfg Tryz.digs 91 Go.Proofs.Tryz.f91 = true := by kernel_rfl
theorem Tryz.ok92 : fnB Tryz.cfg Tryz.digs 92 Go.Proofs.Tryz.f92 = true := by kernel_rfl
theorem Tryz.ok93 : fnB Tryz.cfg Tryz.digs 93 Go.Proofs.Tryz.f93 = true := by kernel_rfl
theorem Tryz.ok94 : fnB Tryz.cfg Tryz.digs 94 Go.Proofs.Tryz.f94 = true := by kernel_rfl
theorem Tryz.ok95 : fnB Tryz.cfg Tryz.digs 95 Go.Proofs.Tryz.f95 = true := by kernel_rfl
theorem Tryz.ok96 : fnB Tryz.cfg Tryz.digs 96 Go.Proofs.Tryz.f96 = true := by kernel_rfl
theorem Tryz.ok97 : fnB Tryz.cfg Tryz.digs 97 Go.Proofs.Tryz.f97 = true := by kernel_rfl
theorem Tryz.ok98 : fnB Tryz.cfg Tryz.digs 98 Go.Proofs.Tryz.f98 = true := by kernel_rfl
theorem Tryz.ok99 : fnB Tryz.cfg Tryz.digs 99 Go.Proofs.Tryz.f99 = true := by kernel_rfl
theorem Tryz.ok100 : fnB Tryz.cfg Tryz.digs 100 Go.Proofs.Tryz.f100 = true := by kernel_rfl
theorem Tryz.ok101 : fnB Tryz.cfg Tryz.digs 101 Go.Proofs.Tryz.f101 = true := by kernel_rfl
theorem Tryz.ok102 : fnB Tryz.cfg Tryz.digs 102 Go.Proofs.Tryz.f102 = true := by kernel_rfl
theorem Tryz.ok103 : fnB Tryz.cfg Tryz.digs 103 Go.Proofs.Tryz.f103 = true := by kernel_rfl
theorem Tryz.ok104 : fnB Tryz.cfg Tryz.digs 104 Go.Proofs.Tryz.f104 = true := by kernel_rfl
theorem Tryz.ok105 : fnB Tryz.cfg Tryz.digs 105 Go.Proofs.Tryz.f105 = true := by kernel_rfl
theorem Tryz.ok106 : fnB Tryz.cfg Tryz.digs 106 Go.Proofs.Tryz.f106 = true := by kernel_rfl
theorem Tryz.ok107 : fnB Tryz.cfg Tryz.digs 107 Go.Proofs.Tryz.f107 = true := by kernel_rfl
theorem Tryz.ok108 : fnB Tryz.cfg Tryz.digs 108 Go.Proofs.Tryz.f108 = true := by kernel_rfl
theorem Tryz.ok109 : fnB Tryz.cfg Tryz.digs 109 Go.Proofs.Tryz.f109 = true := by kernel_rfl
theorem Tryz.ok110 : fnB Tryz.cfg Tryz.digs 110 Go.Proofs.Tryz.f110 = true := by kernel_rfl
theorem Tryz.ok111 : fnB Tryz.cfg Tryz.digs 111 Go.Proofs.Tryz.f111 = true := by kernel_rfl
theorem Tryz.ok112 : fnB Tryz.cfg Tryz.digs 112 Go.Proofs.Tryz.f112 = true := by kernel_rfl
theorem Tryz.ok113 : fnB Tryz.cfg Tryz.digs 113 Go.Proofs.Tryz.f113 = true := by kernel_rfl
theorem Tryz.ok114 : fnB Tryz.cfg Tryz.digs 114 Go.Proofs.Tryz.f114 = true := by kernel_rfl
theorem Tryz.ok115 : fnB Tryz.cfg Tryz.digs 115 Go.Proofs.Tryz.f115 = true := by kernel_rfl
theorem Tryz.ok116 : fnB Tryz.cfg Tryz.digs 116 Go.Proofs.Tryz.f116 = true := by kernel_rfl
theorem Tryz.ok117 : fnB Tryz.cfg Tryz.digs 117 Go.Proofs.Tryz.f117 = true := by kernel_rfl
theorem Tryz.ok118 : fnB Tryz.cfg Tryz.digs 118 Go.Proofs.Tryz.f118 = true := by kernel_rfl
theorem Tryz.ok119 : fnB Tryz.cfg Tryz.digs 119 Go.Proofs.Tryz.f119 = true := by kernel_rfl
theorem Tryz.ok120 : fnB Tryz.cfg Tryz.digs 120 Go.Proofs.Tryz.f120 = true := by kernel_rfl
theorem Tryz.ok121 : fnB Tryz.cfg Tryz.digs 121 Go.Proofs.Tryz.f121 = true := by kernel_rfl
theorem Tryz.ok122 : fnB Tryz.cfg Tryz.digs 122 Go.Proofs.Tryz.f122 = true := by kernel_rfl
theorem Tryz.ok123 : fnB Tryz.cfg Tryz.digs 123 Go.Proofs.Tryz.f123 = true := by kernel_rfl
theorem Tryz.ok124 : fnB Tryz.cfg Tryz.digs 124 Go.Proofs.Tryz.f124 = true := by kernel_rfl
theorem Tryz.ok125 : fnB Tryz.cfg Tryz.digs 125 Go.Proofs.Tryz.f125 = true := by kernel_rfl
theorem Tryz.ok126 : fnB Tryz.cfg Tryz.digs 126 Go.Proofs.Tryz.f126 = true := by kernel_rfl
theorem Tryz.ok127 : fnB Tryz.cfg Tryz.digs 127 Go.Proofs.Tryz.f127 = true := by kernel_rfl
theorem Tryz.ok128 : fnB Tryz.cfg Tryz.digs 128 Go.Proofs.Tryz.f128 = true := by kernel_rfl
theorem Tryz.ok129 : fnB Tryz.cfg Tryz.digs 129 Go.Proofs.Tryz.f129 = true := by kernel_rfl
theorem Tryz.ok130 : fnB Tryz.cfg Tryz.digs 130 Go.Proofs.Tryz.f130 = true := by kernel_rfl
theorem Tryz.ok131 : fnB Tryz.cfg Tryz.digs 131 Go.Proofs.Tryz.f131 = true := by kernel_rfl
theorem Tryz.ok132 : fnB Tryz.cfg Tryz.digs 132 Go.Proofs.Tryz.f132 = true := by kernel_rfl
theorem Tryz.ok133 : fnB Tryz.cfg Tryz.digs 133 Go.Proofs.Tryz.f133 = true := by kernel_rfl
theorem Tryz.ok135 : fnB Tryz.cfg Tryz.digs 135 Go.Proofs.Tryz.f135 = true := by kernel_rfl
theorem Tryz.ok136 : fnB Tryz.cfg Tryz.digs 136 Go.Proofs.Tryz.f136 = true := by kernel_rfl
theorem Tryz.ok137 : fnB Tryz.cfg Tryz.digs 137 Go.Proofs.Tryz.f137 = true := by kernel_rfl
theorem Tryz.ok138 : fnB Tryz.cfg Tryz.digs 138 Go.Proofs.Tryz.f138 = true := by kernel_rfl
theorem Tryz.ok139 : fnB Tryz.cfg Tryz.digs 139 Go.Proofs.Tryz.f139 = true := by kernel_rfl
theorem Tryz.ok140 : fnB Tryz.cfg Tryz.digs 140 Go.Proofs.Tryz.f140 = true := by kernel_rfl
theorem Tryz.ok141 : fnB Tryz.cfg Tryz.digs 141 Go.Proofs.Tryz.f141 = true := by kernel_rfl
theorem Tryz.ok142 : fnB Tryz.cfg Tryz.digs 142 Go.Proofs.Tryz.f142 = true := by kernel_rfl
theorem Tryz.ok143 : fnB Tryz.cfg Tryz.digs 143 Go.Proofs.Tryz.f143 = true := by kernel_rfl
theorem Tryz.ok144 : fnB Tryz.cfg Tryz.digs 144 Go.Proofs.Tryz.f144 = true := by kernel_rfl
theorem Tryz.ok145 : fnB Tryz.cfg Tryz.digs 145 Go.Proofs.Tryz.f145 = true := by kernel_rfl
theorem Tryz.ok146 : fnB Tryz.cfg Tryz.digs 146 Go.Proofs.Tryz.f146 = true := by kernel_rfl
theorem Tryz.ok147 : fnB Tryz.cfg Tryz.digs 147 Go.Proofs.Tryz.f147 = true := by kernel_rfl
theorem Tryz.fnsOk : FnsOk Go.Proofs.Tryz.prog Tryz.cfg Tryz.digs Tryz.fns := ⟨Go.Proofs.Tryz.func2,Tryz.ok2,Go.Proofs.Tryz.func3,Tryz.ok3,Go.Proofs.Tryz.func4,Tryz.ok4,Go.Proofs.Tryz.func5,Tryz.ok5,Go.Proofs.Tryz.func6,Tryz.ok6,Go.Proofs.Tryz.func7,Tryz.ok7,Go.Proofs.Tryz.func8,Tryz.ok8,Go.Proofs.Tryz.func9,Tryz.ok9,Go.Proofs.Tryz.func10,Tryz.ok10,Go.Proofs.Tryz.func11,Tryz.ok11,Go.Proofs.Tryz.func12,Tryz.ok12,Go.Proofs.Tryz.func13,Tryz.ok13,Go.Proofs.Tryz.func14,Tryz.ok14,Go.Proofs.Tryz.func15,Tryz.ok15,Go.Proofs.Tryz.func16,Tryz.ok16,Go.Proofs.Tryz.func17,Tryz.ok17,Go.Proofs.Tryz.func18,Tryz.ok18,Go.Proofs.Tryz.func19,Tryz.ok19,Go.Proofs.Tryz.func20,Tryz.ok20,Go.Proofs.Tryz.func21,Tryz.ok21,Go.Proofs.Tryz.func22,Tryz.ok22,Go.Proofs.Tryz.func23,Tryz.ok23,Go.Proofs.Tryz.func24,Tryz.ok24,Go.Proofs.Tryz.func25,Tryz.ok25,Go.Proofs.Tryz.func26,Tryz.ok26,Go.Proofs.Tryz.func27,Tryz.ok27,Go.Proofs.Tryz.func28,Tryz.ok28,Go.Proofs.Tryz.func29,Tryz.ok29,Go.Proofs.Tryz.func30,Tryz.ok30,Go.Proofs.Tryz.func31,Tryz.ok31,Go.Proofs.Tryz.func32,Tryz.ok32,Go.Proofs.Tryz.func33,Tryz.ok33,Go.Proofs.Tryz.func34,Tryz.ok34,Go.Proofs.Tryz.func35,Tryz.ok35,Go.Proofs.Tryz.func36,Tryz.ok36,Go.Proofs.Tryz.func37,Tryz.ok37,Go.Proofs.Tryz.func38,Tryz.ok38,Go.Proofs.Tryz.func39,Tryz.ok39,Go.Proofs.Tryz.func40,Tryz.ok40,Go.Proofs.Tryz.func41,Tryz.ok41,Go.Proofs.Tryz.func42,Tryz.ok42,Go.Proofs.Tryz.func43,Tryz.ok43,Go.Proofs.Tryz.func44,Tryz.ok44,Go.Proofs.Tryz.func45,Tryz.ok45,Go.Proofs.Tryz.func46,Tryz.ok46,Go.Proofs.Tryz.func47,Tryz.ok47,Go.Proofs.Tryz.func48,Tryz.ok48,Go.Proofs.Tryz.func49,Tryz.ok49,Go.Proofs.Tryz.func50,Tryz.ok50,Go.Proofs.Tryz.func51,Tryz.ok51,Go.Proofs.Tryz.func52,Tryz.ok52,Go.Proofs.Tryz.func53,Tryz.ok53,Go.Proofs.Tryz.func54,Tryz.ok54,Go.Proofs.Tryz.func55,Tryz.ok55,Go.Proofs.Tryz.func56,Tryz.ok56,Go.Proofs.Tryz.func57,Tryz.ok57,Go.Proofs.Tryz.func58,Tryz.ok58,Go.Proofs.Tryz.func59,Tryz.ok59,Go.Proofs.Tryz.func60,Tryz.ok60,Go.Proofs.Tryz.func61,Tryz.ok61,Go.Proofs.Tryz.func62,Tryz.ok62,Go.Proofs.Tryz.func63,Tryz.ok63,Go.Proofs.Tryz.func64,Tryz.ok64,Go.Proofs.Tryz.func65,Tryz.ok65,Go.Proofs.Tryz.func66,Tryz.ok66,Go.Proofs.Tryz.func67,Tryz.ok67,Go.Proofs.Tryz.func68,Tryz.ok68,Go.Proofs.Tryz.func69,Tryz.ok69,Go.Proofs.Tryz.func70,Tryz.ok70,Go.Proofs.Tryz.func71,Tryz.ok71,Go.Proofs.Tryz.func72,Tryz.ok72,Go.Proofs.Tryz.func73,Tryz.ok73,Go.Proofs.Tryz.func74,Tryz.ok74,Go.Proofs.Tryz.func75,Tryz.ok75,Go.Proofs.Tryz.func76,Tryz.ok76,Go.Proofs.Tryz.func77,Tryz.ok77,Go.Proofs.Tryz.func78,Tryz.ok78,Go.Proofs.Tryz.func79,Tryz.ok79,Go.Proofs.Tryz.func80,Tryz.ok80,Go.Proofs.Tryz.func81,Tryz.ok81,Go.Proofs.Tryz.func82,Tryz.ok82,Go.Proofs.Tryz.func83,Tryz.ok83,Go.Proofs.Tryz.func84,Tryz.ok84,Go.Proofs.Tryz.func85,Tryz.ok85,Go.Proofs.Tryz.func86,Tryz.ok86,Go.Proofs.Tryz.func87,Tryz.ok87,Go.Proofs.Tryz.func88,Tryz.ok88,Go.Proofs.Tryz.func89,Tryz.ok89,Go.Proofs.Tryz.func90,Tryz.ok90,Go.Proofs.Tryz.func91,Tryz.ok91,Go.Proofs.Tryz.func92,Tryz.ok92,Go.Proofs.Tryz.func93,Tryz.ok93,Go.Proofs.Tryz.func94,Tryz.ok94,Go.Proofs.Tryz.func95,Tryz.ok95,Go.Proofs.Tryz.func96,Tryz.ok96,Go.Proofs.Tryz.func97,Tryz.ok97,Go.Proofs.Tryz.func98,Tryz.ok98,Go.Proofs.Tryz.func99,Tryz.ok99,Go.Proofs.Tryz.func100,Tryz.ok100,Go.Proofs.Tryz.func101,Tryz.ok101,Go.Proofs.Tryz.func102,Tryz.ok102,Go.Proofs.Tryz.func103,Tryz.ok103,Go.Proofs.Tryz.func104,Tryz.ok104,Go.Proofs.Tryz.func105,Tryz.ok105,Go.Proofs.Tryz.func106,Tryz.ok106,Go.Proofs.Tryz.func107,Tryz.ok107,Go.Proofs.Tryz.func108,Tryz.ok108,Go.Proofs.Tryz.func109,Tryz.ok109,Go.Proofs.Tryz.func110,Tryz.ok110,Go.Proofs.Tryz.func111,Tryz.ok111,Go.Proofs.Tryz.func112,Tryz.ok112,Go.Proofs.Tryz.func113,Tryz.ok113,Go.Proofs.Tryz.func114,Tryz.ok114,Go.Proofs.Tryz.func115,Tryz.ok115,Go.Proofs.Tryz.func116,Tryz.ok116,Go.Proofs.Tryz.func117,Tryz.ok117,Go.Proofs.Tryz.func118,Tryz.ok118,Go.Proofs.Tryz.func119,Tryz.ok119,Go.Proofs.Tryz.func120,Tryz.ok120,Go.Proofs.Tryz.func121,Tryz.ok121,Go.Proofs.Tryz.func122,Tryz.ok122,Go.Proofs.Tryz.func123,Tryz.ok123,Go.Proofs.Tryz.func124,Tryz.ok124,Go.Proofs.Tryz.func125,Tryz.ok125,Go.Proofs.Tryz.func126,Tryz.ok126,Go.Proofs.Tryz.func127,Tryz.ok127,Go.Proofs.Tryz.func128,Tryz.ok128,Go.Proofs.Tryz.func129,Tryz.ok129,Go.Proofs.Tryz.func130,Tryz.ok130,Go.Proofs.Tryz.func131,Tryz.ok131,Go.Proofs.Tryz.func132,Tryz.ok132,Go.Proofs.Tryz.func133,Tryz.ok133,Go.Proofs.Tryz.func135,Tryz.ok135,Go.Proofs.Tryz.func136,Tryz.ok136,Go.Proofs.Tryz.func137,Tryz.ok137,Go.Proofs.Tryz.func138,Tryz.ok138,Go.Proofs.Tryz.func139,Tryz.ok139,Go.Proofs.Tryz.func140,Tryz.ok140,Go.Proofs.Tryz.func141,Tryz.ok141,Go.Proofs.Tryz.func142,Tryz.ok142,Go.Proofs.Tryz.func143,Tryz.ok143,Go.Proofs.Tryz.func144,Tryz.ok144,Go.Proofs.Tryz.func145,Tryz.ok145,Go.Proofs.Tryz.func146,Tryz.ok146,Go.Proofs.Tryz.func147,Tryz.ok147,trivial⟩
end Go.Ab
