/- The seat's program: its types, plans, what lives at loops' heads; the context. Printed by mkseat.py. -/
import Derived.Test.YtmhceknpmokahaaGreatDoorG2
import Derived.Test.YtmhceknpmokahaaGreatDoorProg
import Derived.KernelRfl
namespace Go.Ab
open Go Go.Proofs
def Tryz.tab:Tab:=[
 (0,⟨1,false,.other,[],none,0,false⟩),
 (1,⟨1,false,.other,[],(some (.nilf)),8,false⟩),
 (2,⟨1,false,(.int .i64),[],(some (.int .i64 0)),8,true⟩),
 (3,⟨1,false,(.int .i64),[],(some (.int .i64 0)),8,true⟩),
 (4,⟨1,false,.bool,[],(some (.bool false)),1,true⟩),
 (5,⟨1,false,(.int .u8),[],(some (.int .u8 0)),1,true⟩),
 (6,⟨1,false,(.int .u8),[],(some (.int .u8 0)),1,true⟩),
 (7,⟨4,true,.struct,[(0,2),(1,3),(2,4),(3,6)],(some (.agg [.int .i64 0,.int .i64 0,.bool false,.int .u8 0])),24,true⟩),
 (8,⟨4,true,.struct,[(0,2),(1,3),(2,4),(3,6)],(some (.agg [.int .i64 0,.int .i64 0,.bool false,.int .u8 0])),24,true⟩),
 (9,⟨1,false,.string,[],(some (.str [])),16,true⟩),
 (10,⟨1,false,.string,[],(some (.str [])),16,true⟩),
 (11,⟨1,false,.string,[],(some (.str [])),16,true⟩),
 (12,⟨1,false,(.int .u64),[],(some (.int .u64 0)),8,true⟩),
 (13,⟨2,true,.struct,[(0,9),(1,12)],(some (.agg [.str [],.int .u64 0])),24,false⟩),
 (14,⟨2,true,.struct,[(0,9),(1,12)],(some (.agg [.str [],.int .u64 0])),24,false⟩),
 (15,⟨1,false,(.pointer 356),[],(some (.nilp)),8,true⟩),
 (16,⟨1,false,(.pointer 359),[],(some (.nilp)),8,true⟩),
 (17,⟨1,false,(.pointer 367),[],(some (.nilp)),8,true⟩),
 (18,⟨1,true,.struct,[(0,17)],(some (.agg [.nilp])),8,false⟩),
 (19,⟨1,true,.struct,[(0,17)],(some (.agg [.nilp])),8,false⟩),
 (20,⟨1,false,.iface,[],(some (.nili)),16,true⟩),
 (21,⟨1,false,(.int .i32),[],(some (.int .i32 0)),4,true⟩),
 (22,⟨1,false,(.slice 5),[],(some (.nils)),24,false⟩),
 (23,⟨1,false,.other,[],(some (.nilf)),8,false⟩),
 (24,⟨1,false,(.slice 37),[],(some (.nils)),24,false⟩),
 (25,⟨1,false,(.slice 52),[],(some (.nils)),24,false⟩),
 (26,⟨7,true,.struct,[(0,3),(1,3),(2,3),(3,3),(4,3),(5,24),(6,25)],(some (.agg [.int .i64 0,.int .i64 0,.int .i64 0,.int .i64 0,.int .i64 0,.nils,.nils])),88,false⟩),
 (27,⟨7,true,.struct,[(0,3),(1,3),(2,3),(3,3),(4,3),(5,24),(6,25)],(some (.agg [.int .i64 0,.int .i64 0,.int .i64 0,.int .i64 0,.int .i64 0,.nils,.nils])),88,false⟩),
 (28,⟨1,false,.other,[],(some (.nilf)),8,false⟩),
 (29,⟨1,false,(.pointer 106),[],(some (.nilp)),8,true⟩),
 (30,⟨1,false,.other,[],(some (.nilf)),8,false⟩),
 (31,⟨1,false,.other,[],(some (.nilf)),8,false⟩),
 (32,⟨1,false,(.slice 27),[],(some (.nils)),24,false⟩),
 (33,⟨3,true,.struct,[(0,3),(1,3),(2,3)],(some (.agg [.int .i64 0,.int .i64 0,.int .i64 0])),24,true⟩),
 (34,⟨3,true,.struct,[(0,3),(1,3),(2,3)],(some (.agg [.int .i64 0,.int .i64 0,.int .i64 0])),24,true⟩),
 (35,⟨1,false,(.slice 119),[],(some (.nils)),24,false⟩),
 (36,⟨8,true,.struct,[(0,3),(1,34),(4,4),(5,35),(6,9),(7,9)],(some (.agg [.int .i64 0,.int .i64 0,.int .i64 0,.int .i64 0,.bool false,.nils,.str [],.str []])),96,false⟩),
 (37,⟨8,true,.struct,[(0,3),(1,34),(4,4),(5,35),(6,9),(7,9)],(some (.agg [.int .i64 0,.int .i64 0,.int .i64 0,.int .i64 0,.bool false,.nils,.str [],.str []])),96,false⟩),
 (38,⟨1,false,.other,[],(some (.nilf)),8,false⟩),
 (39,⟨1,false,.other,[],(some (.nilf)),8,false⟩),
 (40,⟨1,false,.other,[],(some (.nilf)),8,false⟩),
 (41,⟨1,false,.other,[],(some (.nilf)),8,false⟩),
 (42,⟨1,false,.other,[],(some (.nilf)),8,false⟩),
 (43,⟨1,false,.other,[],(some (.nilf)),8,false⟩),
 (44,⟨1,false,(.slice 46),[],(some (.nils)),24,false⟩),
 (45,⟨6,true,.struct,[(0,3),(1,3),(2,3),(3,3),(4,9),(5,44)],(some (.agg [.int .i64 0,.int .i64 0,.int .i64 0,.int .i64 0,.str [],.nils])),72,false⟩),
 (46,⟨6,true,.struct,[(0,3),(1,3),(2,3),(3,3),(4,9),(5,44)],(some (.agg [.int .i64 0,.int .i64 0,.int .i64 0,.int .i64 0,.str [],.nils])),72,false⟩),
 (47,⟨1,false,.other,[],(some (.nilf)),8,false⟩),
 (48,⟨1,false,.other,[],(some (.nilf)),8,false⟩),
 (49,⟨1,false,(.slice 77),[],(some (.nils)),24,false⟩),
 (50,⟨1,false,(.slice 3),[],(some (.nils)),24,false⟩),
 (51,⟨5,true,.struct,[(0,3),(1,3),(2,9),(3,49),(4,50)],(some (.agg [.int .i64 0,.int .i64 0,.str [],.nils,.nils])),80,false⟩),
 (52,⟨5,true,.struct,[(0,3),(1,3),(2,9),(3,49),(4,50)],(some (.agg [.int .i64 0,.int .i64 0,.str [],.nils,.nils])),80,false⟩),
 (53,⟨1,false,.other,[],(some (.nilf)),8,false⟩),
 (54,⟨1,false,.other,[],(some (.nilf)),8,false⟩),
 (55,⟨1,false,.other,[],(some (.nilf)),8,false⟩),
 (56,⟨1,false,.other,[],none,0,false⟩),
 (57,⟨1,false,.other,[],(some (.nilf)),8,false⟩),
 (58,⟨1,false,.other,[],(some (.nilf)),8,false⟩),
 (59,⟨1,false,.other,[],(some (.nilf)),8,false⟩),
 (60,⟨1,false,(.slice 80),[],(some (.nils)),24,false⟩),
 (61,⟨1,false,(.slice 217),[],(some (.nils)),24,false⟩),
 (62,⟨6,true,.struct,[(0,3),(1,3),(2,60),(3,32),(4,61),(5,24)],(some (.agg [.int .i64 0,.int .i64 0,.nils,.nils,.nils,.nils])),112,false⟩),
 (63,⟨6,true,.struct,[(0,3),(1,3),(2,60),(3,32),(4,61),(5,24)],(some (.agg [.int .i64 0,.int .i64 0,.nils,.nils,.nils,.nils])),112,false⟩),
 (64,⟨4,true,.struct,[(0,3),(1,3),(2,25),(3,24)],(some (.agg [.int .i64 0,.int .i64 0,.nils,.nils])),64,false⟩),
 (65,⟨4,true,.struct,[(0,3),(1,3),(2,25),(3,24)],(some (.agg [.int .i64 0,.int .i64 0,.nils,.nils])),64,false⟩),
 (66,⟨1,false,.other,[],none,0,false⟩),
 (67,⟨1,false,.other,[],(some (.nilf)),8,false⟩),
 (68,⟨1,false,(.int .i64),[],(some (.int .i64 0)),8,true⟩),
 (69,⟨1,false,.other,[],none,0,false⟩),
 (70,⟨1,false,.other,[],(some (.nilf)),8,false⟩),
 (71,⟨1,false,.other,[],(some (.nilf)),8,false⟩),
 (72,⟨1,false,.other,[],(some (.nilf)),8,false⟩),
 (73,⟨1,false,.other,[],(some (.nilf)),8,false⟩),
 (74,⟨1,false,.other,[],none,0,false⟩),
 (75,⟨1,false,.other,[],(some (.nilf)),8,false⟩),
 (76,⟨4,true,.struct,[(0,3),(1,34)],(some (.agg [.int .i64 0,.int .i64 0,.int .i64 0,.int .i64 0])),32,true⟩),
 (77,⟨4,true,.struct,[(0,3),(1,34)],(some (.agg [.int .i64 0,.int .i64 0,.int .i64 0,.int .i64 0])),32,true⟩),
 (78,⟨1,false,.other,[],(some (.nilf)),8,false⟩),
 (79,⟨1,false,.other,[],(some (.nilf)),8,false⟩),
 (80,⟨2,true,(.array 2 3),[(0,3),(1,3)],(some (.agg [.int .i64 0,.int .i64 0])),16,true⟩),
 (81,⟨1,false,.other,[],none,0,false⟩),
 (82,⟨1,false,.other,[],(some (.nilf)),8,false⟩),
 (83,⟨1,false,.other,[],(some (.nilf)),8,false⟩),
 (84,⟨8,true,.struct,[(0,3),(1,3),(2,3),(3,3),(4,3),(5,35),(6,9),(7,9)],(some (.agg [.int .i64 0,.int .i64 0,.int .i64 0,.int .i64 0,.int .i64 0,.nils,.str [],.str []])),96,false⟩),
 (85,⟨8,true,.struct,[(0,3),(1,3),(2,3),(3,3),(4,3),(5,35),(6,9),(7,9)],(some (.agg [.int .i64 0,.int .i64 0,.int .i64 0,.int .i64 0,.int .i64 0,.nils,.str [],.str []])),96,false⟩),
 (86,⟨1,false,.other,[],(some (.nilf)),8,false⟩),
 (87,⟨1,false,.other,[],none,0,false⟩),
 (88,⟨1,false,.other,[],(some (.nilf)),8,false⟩),
 (89,⟨1,false,.other,[],(some (.nilf)),8,false⟩),
 (90,⟨1,false,.other,[],(some (.nilf)),8,false⟩),
 (91,⟨1,false,.other,[],none,0,false⟩),
 (92,⟨1,false,.other,[],(some (.nilf)),8,false⟩),
 (93,⟨1,false,.other,[],(some (.nilf)),8,false⟩),
 (94,⟨1,false,.other,[],(some (.nilf)),8,false⟩),
 (95,⟨1,false,.other,[],(some (.nilf)),8,false⟩),
 (96,⟨1,false,.other,[],(some (.nilf)),8,false⟩),
 (97,⟨1,false,.other,[],(some (.nilf)),8,false⟩),
 (98,⟨1,false,.other,[],none,0,false⟩),
 (99,⟨1,false,.other,[],(some (.nilf)),8,false⟩),
 (100,⟨1,false,.other,[],(some (.nilf)),8,false⟩),
 (101,⟨1,false,.other,[],(some (.nilf)),8,false⟩),
 (102,⟨1,false,.other,[],(some (.nilf)),8,false⟩),
 (103,⟨1,false,.other,[],(some (.nilf)),8,false⟩),
 (104,⟨1,false,.other,[],(some (.nilf)),8,false⟩),
 (105,⟨2,true,.struct,[(0,22),(1,3)],(some (.agg [.nils,.int .i64 0])),32,false⟩),
 (106,⟨2,true,.struct,[(0,22),(1,3)],(some (.agg [.nils,.int .i64 0])),32,false⟩),
 (107,⟨1,false,.other,[],(some (.nilf)),8,false⟩),
 (108,⟨1,false,.other,[],(some (.nilf)),8,false⟩),
 (109,⟨1,false,.other,[],(some (.nilf)),8,false⟩),
 (110,⟨1,false,(.slice 9),[],(some (.nils)),24,false⟩),
 (111,⟨1,false,.other,[],(some (.nilf)),8,false⟩),
 (112,⟨1,false,.other,[],(some (.nilf)),8,false⟩),
 (113,⟨1,false,.other,[],(some (.nilf)),8,false⟩),
 (114,⟨1,false,.other,[],(some (.nilf)),8,false⟩),
 (115,⟨1,false,.other,[],(some (.nilf)),8,false⟩),
 (116,⟨1,false,.other,[],(some (.nilf)),8,false⟩),
 (117,⟨1,false,.other,[],(some (.nilf)),8,false⟩),
 (118,⟨2,true,.struct,[(0,3),(1,3)],(some (.agg [.int .i64 0,.int .i64 0])),16,true⟩),
 (119,⟨2,true,.struct,[(0,3),(1,3)],(some (.agg [.int .i64 0,.int .i64 0])),16,true⟩),
 (120,⟨3,true,(.array 3 3),[(0,3),(1,3),(2,3)],(some (.agg [.int .i64 0,.int .i64 0,.int .i64 0])),24,true⟩),
 (121,⟨1,false,(.slice 167),[],(some (.nils)),24,false⟩),
 (122,⟨1,false,.other,[],none,0,false⟩),
 (123,⟨1,false,.other,[],(some (.nilf)),8,false⟩),
 (124,⟨1,false,(.pointer 126),[],(some (.nilp)),8,true⟩),
 (125,⟨5,true,.struct,[(0,121),(1,3),(2,3),(3,4),(4,3)],(some (.agg [.nils,.int .i64 0,.int .i64 0,.bool false,.int .i64 0])),56,false⟩),
 (126,⟨5,true,.struct,[(0,121),(1,3),(2,3),(3,4),(4,3)],(some (.agg [.nils,.int .i64 0,.int .i64 0,.bool false,.int .i64 0])),56,false⟩),
 (127,⟨1,false,.other,[],(some (.nilf)),8,false⟩),
 (128,⟨1,false,.other,[],(some (.nilf)),8,false⟩),
 (129,⟨1,false,.other,[],(some (.nilf)),8,false⟩),
 (130,⟨1,false,.other,[],none,0,false⟩),
 (131,⟨1,false,.other,[],(some (.nilf)),8,false⟩),
 (132,⟨1,false,.other,[],(some (.nilf)),8,false⟩),
 (133,⟨1,false,.other,[],(some (.nilf)),8,false⟩),
 (134,⟨1,false,(.pointer 136),[],(some (.nilp)),8,true⟩),
 (135,⟨12,true,.struct,[(0,27),(7,52)],(some (.agg [.int .i64 0,.int .i64 0,.int .i64 0,.int .i64 0,.int .i64 0,.nils,.nils,.int .i64 0,.int .i64 0,.str [],.nils,.nils])),168,false⟩),
 (136,⟨12,true,.struct,[(0,27),(7,52)],(some (.agg [.int .i64 0,.int .i64 0,.int .i64 0,.int .i64 0,.int .i64 0,.nils,.nils,.int .i64 0,.int .i64 0,.str [],.nils,.nils])),168,false⟩),
 (137,⟨1,false,.other,[],(some (.nilf)),8,false⟩),
 (138,⟨1,false,.other,[],(some (.nilf)),8,false⟩),
 (139,⟨1,false,.other,[],(some (.nilf)),8,false⟩),
 (140,⟨1,false,.iface,[],(some (.nili)),16,true⟩),
 (141,⟨1,false,.iface,[],(some (.nili)),16,true⟩),
 (142,⟨1,false,.other,[],none,0,false⟩),
 (143,⟨1,false,.other,[],(some (.nilf)),8,false⟩),
 (144,⟨1,false,.other,[],(some (.nilf)),8,false⟩),
 (145,⟨1,true,.struct,[(0,68)],(some (.agg [.int .i64 0])),8,true⟩),
 (146,⟨1,true,.struct,[(0,68)],(some (.agg [.int .i64 0])),8,true⟩),
 (147,⟨1,false,.other,[],(some (.nilf)),8,false⟩),
 (148,⟨1,false,.other,[],(some (.nilf)),8,false⟩),
 (149,⟨1,false,.other,[],none,0,false⟩),
 (150,⟨1,false,.other,[],(some (.nilf)),8,false⟩),
 (151,⟨1,false,.other,[],(some (.nilf)),8,false⟩),
 (152,⟨1,false,.other,[],(some (.nilf)),8,false⟩),
 (153,⟨1,false,.other,[],(some (.nilf)),8,false⟩),
 (154,⟨1,false,.other,[],(some (.nilf)),8,false⟩),
 (155,⟨1,false,.other,[],none,0,false⟩),
 (156,⟨1,false,.other,[],(some (.nilf)),8,false⟩),
 (157,⟨1,false,.other,[],none,0,false⟩),
 (158,⟨1,false,.other,[],(some (.nilf)),8,false⟩),
 (159,⟨1,false,.other,[],(some (.nilf)),8,false⟩),
 (160,⟨1,false,.other,[],(some (.nilf)),8,false⟩),
 (161,⟨1,false,.other,[],(some (.nilf)),8,false⟩),
 (162,⟨1,false,.other,[],(some (.nilf)),8,false⟩),
 (163,⟨1,false,.other,[],(some (.nilf)),8,false⟩),
 (164,⟨1,false,.other,[],(some (.nilf)),8,false⟩),
 (165,⟨1,false,.other,[],(some (.nilf)),8,false⟩),
 (166,⟨4,true,.struct,[(0,3),(1,9),(2,3),(3,3)],(some (.agg [.int .i64 0,.str [],.int .i64 0,.int .i64 0])),40,true⟩),
 (167,⟨4,true,.struct,[(0,3),(1,9),(2,3),(3,3)],(some (.agg [.int .i64 0,.str [],.int .i64 0,.int .i64 0])),40,true⟩),
 (168,⟨1,false,.other,[],none,0,false⟩),
 (169,⟨1,false,.other,[],(some (.nilf)),8,false⟩),
 (170,⟨1,false,.other,[],(some (.nilf)),8,false⟩),
 (171,⟨1,false,.other,[],(some (.nilf)),8,false⟩),
 (172,⟨1,false,.other,[],(some (.nilf)),8,false⟩),
 (173,⟨0,true,.struct,[],(some (.agg [])),0,true⟩),
 (174,⟨0,true,.struct,[],(some (.agg [])),0,true⟩),
 (175,⟨1,false,.other,[],(some (.nilf)),8,false⟩),
 (176,⟨1,false,.other,[],(some (.nilf)),8,false⟩),
 (177,⟨1,false,.other,[],(some (.nilf)),8,false⟩),
 (178,⟨1,false,.other,[],(some (.nilf)),8,false⟩),
 (179,⟨1,false,.other,[],(some (.nilf)),8,false⟩),
 (180,⟨1,false,.other,[],(some (.nilf)),8,false⟩),
 (181,⟨1,false,(.pointer 52),[],(some (.nilp)),8,true⟩),
 (182,⟨1,false,.other,[],(some (.nilf)),8,false⟩),
 (183,⟨1,false,.other,[],(some (.nilf)),8,false⟩),
 (184,⟨1,false,.other,[],(some (.nilf)),8,false⟩),
 (185,⟨1,false,.other,[],(some (.nilf)),8,false⟩),
 (186,⟨1,false,.other,[],(some (.nilf)),8,false⟩),
 (187,⟨2,true,.struct,[(0,9),(1,141)],(some (.agg [.str [],.nili])),32,false⟩),
 (188,⟨2,true,.struct,[(0,9),(1,141)],(some (.agg [.str [],.nili])),32,false⟩),
 (189,⟨1,false,.other,[],(some (.nilf)),8,false⟩),
 (190,⟨1,false,.other,[],(some (.nilf)),8,false⟩),
 (191,⟨1,false,.other,[],(some (.nilf)),8,false⟩),
 (192,⟨1,false,.other,[],(some (.nilf)),8,false⟩),
 (193,⟨1,false,.other,[],(some (.nilf)),8,false⟩),
 (194,⟨1,false,.other,[],(some (.nilf)),8,false⟩),
 (195,⟨1,false,.other,[],(some (.nilf)),8,false⟩),
 (196,⟨1,false,(.slice 248),[],(some (.nils)),24,false⟩),
 (197,⟨1,false,.other,[],none,0,false⟩),
 (198,⟨1,false,.other,[],(some (.nilf)),8,false⟩),
 (199,⟨1,false,.other,[],none,0,false⟩),
 (200,⟨1,false,(.pointer 202),[],(some (.nilp)),8,true⟩),
 (201,⟨2,true,.struct,[(0,196),(1,3)],(some (.agg [.nils,.int .i64 0])),32,false⟩),
 (202,⟨2,true,.struct,[(0,196),(1,3)],(some (.agg [.nils,.int .i64 0])),32,false⟩),
 (203,⟨1,false,.other,[],(some (.nilf)),8,false⟩),
 (204,⟨1,true,.struct,[(0,3)],(some (.agg [.int .i64 0])),8,true⟩),
 (205,⟨1,true,.struct,[(0,3)],(some (.agg [.int .i64 0])),8,true⟩),
 (206,⟨1,false,.other,[],(some (.nilf)),8,false⟩),
 (207,⟨1,false,(.pointer 205),[],(some (.nilp)),8,true⟩),
 (208,⟨1,false,.other,[],(some (.nilf)),8,false⟩),
 (209,⟨1,false,.other,[],(some (.nilf)),8,false⟩),
 (210,⟨1,false,.other,[],(some (.nilf)),8,false⟩),
 (211,⟨1,false,.other,[],(some (.nilf)),8,false⟩),
 (212,⟨1,false,.other,[],none,0,false⟩),
 (213,⟨1,false,.other,[],(some (.nilf)),8,false⟩),
 (214,⟨1,false,.other,[],none,0,false⟩),
 (215,⟨1,false,.other,[],(some (.nilf)),8,false⟩),
 (216,⟨4,true,.struct,[(0,3),(1,3),(2,9),(3,4)],(some (.agg [.int .i64 0,.int .i64 0,.str [],.bool false])),40,true⟩),
 (217,⟨4,true,.struct,[(0,3),(1,3),(2,9),(3,4)],(some (.agg [.int .i64 0,.int .i64 0,.str [],.bool false])),40,true⟩),
 (218,⟨1,false,.other,[],none,0,false⟩),
 (219,⟨1,false,.other,[],(some (.nilf)),8,false⟩),
 (220,⟨1,false,.other,[],(some (.nilf)),8,false⟩),
 (221,⟨1,false,.other,[],(some (.nilf)),8,false⟩),
 (222,⟨1,false,.other,[],(some (.nilf)),8,false⟩),
 (223,⟨1,false,.other,[],(some (.nilf)),8,false⟩),
 (224,⟨1,false,.other,[],(some (.nilf)),8,false⟩),
 (225,⟨1,false,.other,[],(some (.nilf)),8,false⟩),
 (226,⟨1,false,.other,[],(some (.nilf)),8,false⟩),
 (227,⟨1,false,.other,[],(some (.nilf)),8,false⟩),
 (228,⟨1,false,.iface,[],(some (.nili)),16,true⟩),
 (229,⟨1,false,.iface,[],(some (.nili)),16,true⟩),
 (230,⟨1,false,.other,[],(some (.nilf)),8,false⟩),
 (231,⟨1,false,.other,[],(some (.nilf)),8,false⟩),
 (232,⟨2,true,.struct,[(0,9),(1,141)],(some (.agg [.str [],.nili])),32,false⟩),
 (233,⟨2,true,.struct,[(0,9),(1,141)],(some (.agg [.str [],.nili])),32,false⟩),
 (234,⟨1,false,.other,[],(some (.nilf)),8,false⟩),
 (235,⟨1,false,.other,[],(some (.nilf)),8,false⟩),
 (236,⟨1,false,.other,[],(some (.nilf)),8,false⟩),
 (237,⟨1,false,.other,[],(some (.nilf)),8,false⟩),
 (238,⟨1,false,.other,[],(some (.nilf)),8,false⟩),
 (239,⟨1,false,(.pointer 146),[],(some (.nilp)),8,true⟩),
 (240,⟨1,false,(.pointer 297),[],(some (.nilp)),8,true⟩),
 (241,⟨1,false,.other,[],(some (.nilf)),8,false⟩),
 (242,⟨1,false,(.pointer 240),[],(some (.nilp)),8,true⟩),
 (243,⟨1,false,.other,[],(some (.nilf)),8,false⟩),
 (244,⟨1,false,.other,[],(some (.nilf)),8,false⟩),
 (245,⟨1,false,.other,[],(some (.nilf)),8,false⟩),
 (246,⟨1,false,.other,[],(some (.nilf)),8,false⟩),
 (247,⟨1,false,.other,[],(some (.nilf)),8,false⟩),
 (248,⟨4,true,.struct,[(0,3),(1,9),(2,3),(3,3)],(some (.agg [.int .i64 0,.str [],.int .i64 0,.int .i64 0])),40,true⟩),
 (249,⟨1,false,.other,[],none,0,false⟩),
 (250,⟨1,false,.other,[],(some (.nilf)),8,false⟩),
 (251,⟨1,false,.other,[],(some (.nilf)),8,false⟩),
 (252,⟨1,false,.other,[],(some (.nilp)),8,true⟩),
 (253,⟨1,false,(.int .u64),[],(some (.int .u64 0)),8,true⟩),
 (254,⟨3,true,.struct,[(0,17),(1,252),(2,253)],(some (.agg [.nilp,.nilp,.int .u64 0])),24,false⟩),
 (255,⟨3,true,.struct,[(0,17),(1,252),(2,253)],(some (.agg [.nilp,.nilp,.int .u64 0])),24,false⟩),
 (256,⟨1,false,.other,[],(some (.nilf)),8,false⟩),
 (257,⟨1,false,.other,[],(some (.nilf)),8,false⟩),
 (258,⟨1,false,(.int .u8),[],(some (.int .u8 0)),1,true⟩),
 (259,⟨1,false,.other,[],(some (.nilf)),8,false⟩),
 (260,⟨1,false,.other,[],(some (.nilf)),8,false⟩),
 (261,⟨1,false,.other,[],(some (.nilf)),8,false⟩),
 (262,⟨1,false,.other,[],(some (.nilf)),8,false⟩),
 (263,⟨1,false,.other,[],(some (.nilf)),8,false⟩),
 (264,⟨1,false,.other,[],(some (.nilf)),8,false⟩),
 (265,⟨1,false,.other,[],(some (.nilf)),8,false⟩),
 (266,⟨1,false,.other,[],(some (.nilf)),8,false⟩),
 (267,⟨1,false,.other,[],(some (.nilf)),8,false⟩),
 (268,⟨1,false,.other,[],(some (.nilf)),8,false⟩),
 (269,⟨1,false,(.int .u16),[],(some (.int .u16 0)),2,true⟩),
 (270,⟨1,false,.other,[],(some (.nilf)),8,false⟩),
 (271,⟨1,false,(.int .u64),[],(some (.int .u64 0)),8,true⟩),
 (272,⟨1,false,(.pointer 274),[],(some (.nilp)),8,true⟩),
 (273,⟨2,true,.struct,[(0,22),(1,4)],(some (.agg [.nils,.bool false])),32,false⟩),
 (274,⟨2,true,.struct,[(0,22),(1,4)],(some (.agg [.nils,.bool false])),32,false⟩),
 (275,⟨1,false,.other,[],(some (.nilf)),8,false⟩),
 (276,⟨1,false,.other,[],none,0,false⟩),
 (277,⟨1,false,.other,[],(some (.nilf)),8,false⟩),
 (278,⟨1,false,.other,[],(some (.nilf)),8,false⟩),
 (279,⟨1,false,.other,[],(some (.nilf)),8,false⟩),
 (280,⟨1,true,.struct,[(0,17)],(some (.agg [.nilp])),8,false⟩),
 (281,⟨1,true,.struct,[(0,17)],(some (.agg [.nilp])),8,false⟩),
 (282,⟨1,false,(.pointer 371),[],(some (.nilp)),8,true⟩),
 (283,⟨1,false,.iface,[],(some (.nili)),16,true⟩),
 (284,⟨1,false,.other,[],none,0,false⟩),
 (285,⟨1,false,.other,[],(some (.nilf)),8,false⟩),
 (286,⟨1,false,.iface,[],(some (.nili)),16,true⟩),
 (287,⟨1,false,.iface,[],(some (.nili)),16,true⟩),
 (288,⟨1,false,(.slice 141),[],(some (.nils)),24,false⟩),
 (289,⟨1,false,.other,[],(some (.nilf)),8,false⟩),
 (290,⟨1,false,(.pointer 292),[],(some (.nilp)),8,true⟩),
 (291,⟨1,true,.struct,[(0,288)],(some (.agg [.nils])),24,false⟩),
 (292,⟨1,true,.struct,[(0,288)],(some (.agg [.nils])),24,false⟩),
 (293,⟨1,false,.other,[],(some (.nilf)),8,false⟩),
 (294,⟨1,false,.other,[],(some (.nilf)),8,false⟩),
 (295,⟨1,false,.other,[],(some (.nilf)),8,false⟩),
 (296,⟨1,true,.struct,[(0,9)],(some (.agg [.str []])),16,true⟩),
 (297,⟨1,true,.struct,[(0,9)],(some (.agg [.str []])),16,true⟩),
 (298,⟨1,true,.struct,[(0,141)],(some (.agg [.nili])),16,false⟩),
 (299,⟨1,true,.struct,[(0,141)],(some (.agg [.nili])),16,false⟩),
 (300,⟨1,false,.other,[],(some (.nilf)),8,false⟩),
 (301,⟨1,false,.other,[],(some (.nilf)),8,false⟩),
 (302,⟨0,true,.struct,[],(some (.agg [])),0,true⟩),
 (303,⟨1,false,.other,[],(some (.nilf)),8,false⟩),
 (304,⟨1,false,.other,[],(some (.nilf)),8,false⟩),
 (305,⟨1,false,.other,[],(some (.nilf)),8,false⟩),
 (306,⟨1,false,.other,[],(some (.nilf)),8,false⟩),
 (307,⟨1,false,.other,[],(some (.nilf)),8,false⟩),
 (308,⟨1,false,.other,[],(some (.nilf)),8,false⟩),
 (309,⟨1,false,.iface,[],(some (.nili)),16,true⟩),
 (310,⟨1,false,.other,[],none,0,false⟩),
 (311,⟨1,false,.other,[],(some (.nilf)),8,false⟩),
 (312,⟨1,false,.other,[],(some (.nilf)),8,false⟩),
 (313,⟨1,false,(.int .u32),[],(some (.int .u32 0)),4,true⟩),
 (314,⟨1,false,.other,[],none,0,false⟩),
 (315,⟨1,false,.other,[],(some (.nilf)),8,false⟩),
 (316,⟨1,false,.other,[],none,0,false⟩),
 (317,⟨1,false,.other,[],(some (.nilf)),8,false⟩),
 (318,⟨1,false,.other,[],(some (.nilf)),8,false⟩),
 (319,⟨1,false,.other,[],(some (.nilf)),8,false⟩),
 (320,⟨1,false,.other,[],(some (.nilf)),8,false⟩),
 (321,⟨1,false,.other,[],(some (.nilf)),8,false⟩),
 (322,⟨1,false,.other,[],(some (.nilf)),8,false⟩),
 (323,⟨1,false,.other,[],(some (.nilf)),8,false⟩),
 (324,⟨1,false,.other,[],(some (.nilf)),8,false⟩),
 (325,⟨0,true,.struct,[],(some (.agg [])),0,true⟩),
 (326,⟨1,false,.other,[],(some (.nilf)),8,false⟩),
 (327,⟨1,false,.other,[],(some (.nilf)),8,false⟩),
 (328,⟨1,false,.other,[],(some (.nilf)),8,false⟩),
 (329,⟨256,true,(.array 256 4),[],(some (.agg [.bool false,.bool false,.bool false,.bool false,.bool false,.bool false,.bool false,.bool false,.bool false,.bool false,.bool false,.bool false,.bool false,.bool false,.bool false,.bool false,.bool false,.bool false,.bool false,.bool false,.bool false,.bool false,.bool false,.bool false,.bool false,.bool false,.bool false,.bool false,.bool false,.bool false,.bool false,.bool false,.bool false,.bool false,.bool false,.bool false,.bool false,.bool false,.bool false,.bool false,.bool false,.bool false,.bool false,.bool false,.bool false,.bool false,.bool false,.bool false,.bool false,.bool false,.bool false,.bool false,.bool false,.bool false,.bool false,.bool false,.bool false,.bool false,.bool false,.bool false,.bool false,.bool false,.bool false,.bool false,.bool false,.bool false,.bool false,.bool false,.bool false,.bool false,.bool false,.bool false,.bool false,.bool false,.bool false,.bool false,.bool false,.bool false,.bool false,.bool false,.bool false,.bool false,.bool false,.bool false,.bool false,.bool false,.bool false,.bool false,.bool false,.bool false,.bool false,.bool false,.bool false,.bool false,.bool false,.bool false,.bool false,.bool false,.bool false,.bool false,.bool false,.bool false,.bool false,.bool false,.bool false,.bool false,.bool false,.bool false,.bool false,.bool false,.bool false,.bool false,.bool false,.bool false,.bool false,.bool false,.bool false,.bool false,.bool false,.bool false,.bool false,.bool false,.bool false,.bool false,.bool false,.bool false,.bool false,.bool false,.bool false,.bool false,.bool false,.bool false,.bool false,.bool false,.bool false,.bool false,.bool false,.bool false,.bool false,.bool false,.bool false,.bool false,.bool false,.bool false,.bool false,.bool false,.bool false,.bool false,.bool false,.bool false,.bool false,.bool false,.bool false,.bool false,.bool false,.bool false,.bool false,.bool false,.bool false,.bool false,.bool false,.bool false,.bool false,.bool false,.bool false,.bool false,.bool false,.bool false,.bool false,.bool false,.bool false,.bool false,.bool false,.bool false,.bool false,.bool false,.bool false,.bool false,.bool false,.bool false,.bool false,.bool false,.bool false,.bool false,.bool false,.bool false,.bool false,.bool false,.bool false,.bool false,.bool false,.bool false,.bool false,.bool false,.bool false,.bool false,.bool false,.bool false,.bool false,.bool false,.bool false,.bool false,.bool false,.bool false,.bool false,.bool false,.bool false,.bool false,.bool false,.bool false,.bool false,.bool false,.bool false,.bool false,.bool false,.bool false,.bool false,.bool false,.bool false,.bool false,.bool false,.bool false,.bool false,.bool false,.bool false,.bool false,.bool false,.bool false,.bool false,.bool false,.bool false,.bool false,.bool false,.bool false,.bool false,.bool false,.bool false,.bool false,.bool false,.bool false,.bool false,.bool false,.bool false,.bool false,.bool false,.bool false,.bool false,.bool false,.bool false,.bool false,.bool false,.bool false,.bool false,.bool false,.bool false,.bool false])),256,true⟩),
 (330,⟨256,true,(.array 256 4),[],(some (.agg [.bool false,.bool false,.bool false,.bool false,.bool false,.bool false,.bool false,.bool false,.bool false,.bool false,.bool false,.bool false,.bool false,.bool false,.bool false,.bool false,.bool false,.bool false,.bool false,.bool false,.bool false,.bool false,.bool false,.bool false,.bool false,.bool false,.bool false,.bool false,.bool false,.bool false,.bool false,.bool false,.bool false,.bool false,.bool false,.bool false,.bool false,.bool false,.bool false,.bool false,.bool false,.bool false,.bool false,.bool false,.bool false,.bool false,.bool false,.bool false,.bool false,.bool false,.bool false,.bool false,.bool false,.bool false,.bool false,.bool false,.bool false,.bool false,.bool false,.bool false,.bool false,.bool false,.bool false,.bool false,.bool false,.bool false,.bool false,.bool false,.bool false,.bool false,.bool false,.bool false,.bool false,.bool false,.bool false,.bool false,.bool false,.bool false,.bool false,.bool false,.bool false,.bool false,.bool false,.bool false,.bool false,.bool false,.bool false,.bool false,.bool false,.bool false,.bool false,.bool false,.bool false,.bool false,.bool false,.bool false,.bool false,.bool false,.bool false,.bool false,.bool false,.bool false,.bool false,.bool false,.bool false,.bool false,.bool false,.bool false,.bool false,.bool false,.bool false,.bool false,.bool false,.bool false,.bool false,.bool false,.bool false,.bool false,.bool false,.bool false,.bool false,.bool false,.bool false,.bool false,.bool false,.bool false,.bool false,.bool false,.bool false,.bool false,.bool false,.bool false,.bool false,.bool false,.bool false,.bool false,.bool false,.bool false,.bool false,.bool false,.bool false,.bool false,.bool false,.bool false,.bool false,.bool false,.bool false,.bool false,.bool false,.bool false,.bool false,.bool false,.bool false,.bool false,.bool false,.bool false,.bool false,.bool false,.bool false,.bool false,.bool false,.bool false,.bool false,.bool false,.bool false,.bool false,.bool false,.bool false,.bool false,.bool false,.bool false,.bool false,.bool false,.bool false,.bool false,.bool false,.bool false,.bool false,.bool false,.bool false,.bool false,.bool false,.bool false,.bool false,.bool false,.bool false,.bool false,.bool false,.bool false,.bool false,.bool false,.bool false,.bool false,.bool false,.bool false,.bool false,.bool false,.bool false,.bool false,.bool false,.bool false,.bool false,.bool false,.bool false,.bool false,.bool false,.bool false,.bool false,.bool false,.bool false,.bool false,.bool false,.bool false,.bool false,.bool false,.bool false,.bool false,.bool false,.bool false,.bool false,.bool false,.bool false,.bool false,.bool false,.bool false,.bool false,.bool false,.bool false,.bool false,.bool false,.bool false,.bool false,.bool false,.bool false,.bool false,.bool false,.bool false,.bool false,.bool false,.bool false,.bool false,.bool false,.bool false,.bool false,.bool false,.bool false,.bool false,.bool false,.bool false,.bool false,.bool false,.bool false,.bool false,.bool false,.bool false,.bool false])),256,true⟩),
 (331,⟨1,false,.other,[],none,0,false⟩),
 (332,⟨1,false,.other,[],(some (.nilf)),8,false⟩),
 (333,⟨1,false,.other,[],(some (.nilf)),8,false⟩),
 (334,⟨1,false,(.pointer 330),[],(some (.nilp)),8,true⟩),
 (335,⟨2,true,.struct,[(0,9),(1,141)],(some (.agg [.str [],.nili])),32,false⟩),
 (336,⟨2,true,.struct,[(0,9),(1,141)],(some (.agg [.str [],.nili])),32,false⟩),
 (337,⟨1,false,.other,[],none,0,false⟩),
 (338,⟨1,false,.other,[],(some (.nilf)),8,false⟩),
 (339,⟨2,true,.struct,[(0,9),(1,141)],(some (.agg [.str [],.nili])),32,false⟩),
 (340,⟨2,true,.struct,[(0,9),(1,141)],(some (.agg [.str [],.nili])),32,false⟩),
 (341,⟨1,false,.other,[],(some (.nilf)),8,false⟩),
 (342,⟨1,false,.other,[],(some (.nilf)),8,false⟩),
 (343,⟨1,true,.struct,[(0,141)],(some (.agg [.nili])),16,false⟩),
 (344,⟨1,true,.struct,[(0,141)],(some (.agg [.nili])),16,false⟩),
 (345,⟨1,false,.other,[],none,0,false⟩),
 (346,⟨1,false,.other,[],(some (.nilf)),8,false⟩),
 (347,⟨1,false,.other,[],(some (.nilf)),8,false⟩),
 (348,⟨1,false,.other,[],(some (.nilf)),8,false⟩),
 (349,⟨256,true,(.array 256 5),[],(some (.agg [.int .u8 0,.int .u8 0,.int .u8 0,.int .u8 0,.int .u8 0,.int .u8 0,.int .u8 0,.int .u8 0,.int .u8 0,.int .u8 0,.int .u8 0,.int .u8 0,.int .u8 0,.int .u8 0,.int .u8 0,.int .u8 0,.int .u8 0,.int .u8 0,.int .u8 0,.int .u8 0,.int .u8 0,.int .u8 0,.int .u8 0,.int .u8 0,.int .u8 0,.int .u8 0,.int .u8 0,.int .u8 0,.int .u8 0,.int .u8 0,.int .u8 0,.int .u8 0,.int .u8 0,.int .u8 0,.int .u8 0,.int .u8 0,.int .u8 0,.int .u8 0,.int .u8 0,.int .u8 0,.int .u8 0,.int .u8 0,.int .u8 0,.int .u8 0,.int .u8 0,.int .u8 0,.int .u8 0,.int .u8 0,.int .u8 0,.int .u8 0,.int .u8 0,.int .u8 0,.int .u8 0,.int .u8 0,.int .u8 0,.int .u8 0,.int .u8 0,.int .u8 0,.int .u8 0,.int .u8 0,.int .u8 0,.int .u8 0,.int .u8 0,.int .u8 0,.int .u8 0,.int .u8 0,.int .u8 0,.int .u8 0,.int .u8 0,.int .u8 0,.int .u8 0,.int .u8 0,.int .u8 0,.int .u8 0,.int .u8 0,.int .u8 0,.int .u8 0,.int .u8 0,.int .u8 0,.int .u8 0,.int .u8 0,.int .u8 0,.int .u8 0,.int .u8 0,.int .u8 0,.int .u8 0,.int .u8 0,.int .u8 0,.int .u8 0,.int .u8 0,.int .u8 0,.int .u8 0,.int .u8 0,.int .u8 0,.int .u8 0,.int .u8 0,.int .u8 0,.int .u8 0,.int .u8 0,.int .u8 0,.int .u8 0,.int .u8 0,.int .u8 0,.int .u8 0,.int .u8 0,.int .u8 0,.int .u8 0,.int .u8 0,.int .u8 0,.int .u8 0,.int .u8 0,.int .u8 0,.int .u8 0,.int .u8 0,.int .u8 0,.int .u8 0,.int .u8 0,.int .u8 0,.int .u8 0,.int .u8 0,.int .u8 0,.int .u8 0,.int .u8 0,.int .u8 0,.int .u8 0,.int .u8 0,.int .u8 0,.int .u8 0,.int .u8 0,.int .u8 0,.int .u8 0,.int .u8 0,.int .u8 0,.int .u8 0,.int .u8 0,.int .u8 0,.int .u8 0,.int .u8 0,.int .u8 0,.int .u8 0,.int .u8 0,.int .u8 0,.int .u8 0,.int .u8 0,.int .u8 0,.int .u8 0,.int .u8 0,.int .u8 0,.int .u8 0,.int .u8 0,.int .u8 0,.int .u8 0,.int .u8 0,.int .u8 0,.int .u8 0,.int .u8 0,.int .u8 0,.int .u8 0,.int .u8 0,.int .u8 0,.int .u8 0,.int .u8 0,.int .u8 0,.int .u8 0,.int .u8 0,.int .u8 0,.int .u8 0,.int .u8 0,.int .u8 0,.int .u8 0,.int .u8 0,.int .u8 0,.int .u8 0,.int .u8 0,.int .u8 0,.int .u8 0,.int .u8 0,.int .u8 0,.int .u8 0,.int .u8 0,.int .u8 0,.int .u8 0,.int .u8 0,.int .u8 0,.int .u8 0,.int .u8 0,.int .u8 0,.int .u8 0,.int .u8 0,.int .u8 0,.int .u8 0,.int .u8 0,.int .u8 0,.int .u8 0,.int .u8 0,.int .u8 0,.int .u8 0,.int .u8 0,.int .u8 0,.int .u8 0,.int .u8 0,.int .u8 0,.int .u8 0,.int .u8 0,.int .u8 0,.int .u8 0,.int .u8 0,.int .u8 0,.int .u8 0,.int .u8 0,.int .u8 0,.int .u8 0,.int .u8 0,.int .u8 0,.int .u8 0,.int .u8 0,.int .u8 0,.int .u8 0,.int .u8 0,.int .u8 0,.int .u8 0,.int .u8 0,.int .u8 0,.int .u8 0,.int .u8 0,.int .u8 0,.int .u8 0,.int .u8 0,.int .u8 0,.int .u8 0,.int .u8 0,.int .u8 0,.int .u8 0,.int .u8 0,.int .u8 0,.int .u8 0,.int .u8 0,.int .u8 0,.int .u8 0,.int .u8 0,.int .u8 0,.int .u8 0,.int .u8 0,.int .u8 0,.int .u8 0,.int .u8 0,.int .u8 0,.int .u8 0,.int .u8 0,.int .u8 0,.int .u8 0,.int .u8 0,.int .u8 0,.int .u8 0,.int .u8 0,.int .u8 0])),256,true⟩),
 (350,⟨2,true,.struct,[(0,5),(1,5)],(some (.agg [.int .u8 0,.int .u8 0])),2,true⟩),
 (351,⟨2,true,.struct,[(0,5),(1,5)],(some (.agg [.int .u8 0,.int .u8 0])),2,true⟩),
 (352,⟨32,true,(.array 16 351),[(0,351),(2,351),(4,351),(6,351),(8,351),(10,351),(12,351),(14,351),(16,351),(18,351),(20,351),(22,351),(24,351),(26,351),(28,351),(30,351)],(some (.agg [.int .u8 0,.int .u8 0,.int .u8 0,.int .u8 0,.int .u8 0,.int .u8 0,.int .u8 0,.int .u8 0,.int .u8 0,.int .u8 0,.int .u8 0,.int .u8 0,.int .u8 0,.int .u8 0,.int .u8 0,.int .u8 0,.int .u8 0,.int .u8 0,.int .u8 0,.int .u8 0,.int .u8 0,.int .u8 0,.int .u8 0,.int .u8 0,.int .u8 0,.int .u8 0,.int .u8 0,.int .u8 0,.int .u8 0,.int .u8 0,.int .u8 0,.int .u8 0])),32,true⟩),
 (353,⟨1,false,.other,[],(some (.nilf)),8,false⟩),
 (354,⟨1,false,.other,[],(some (.nilf)),8,false⟩),
 (355,⟨4,true,.struct,[(0,17),(1,17),(2,17),(3,9)],(some (.agg [.nilp,.nilp,.nilp,.str []])),40,false⟩),
 (356,⟨4,true,.struct,[(0,17),(1,17),(2,17),(3,9)],(some (.agg [.nilp,.nilp,.nilp,.str []])),40,false⟩),
 (357,⟨0,true,(.array 0 16),[],(some (.agg [])),0,true⟩),
 (358,⟨0,true,.struct,[(0,357)],(some (.agg [])),0,false⟩),
 (359,⟨0,true,.struct,[(0,357)],(some (.agg [])),0,false⟩),
 (360,⟨1,false,.other,[],(some (.nilf)),8,false⟩),
 (361,⟨1,false,(.int .u8),[],(some (.int .u8 0)),1,true⟩),
 (362,⟨1,false,.other,[],(some (.nilf)),8,false⟩),
 (363,⟨1,false,(.pointer 5),[],(some (.nilp)),8,true⟩),
 (364,⟨1,false,(.int .i32),[],(some (.int .i32 0)),4,true⟩),
 (365,⟨1,false,(.int .i32),[],(some (.int .i32 0)),4,true⟩),
 (366,⟨11,true,.struct,[(0,12),(1,12),(2,313),(3,361),(4,5),(5,5),(6,258),(7,362),(8,363),(9,364),(10,365)],(some (.agg [.int .u64 0,.int .u64 0,.int .u32 0,.int .u8 0,.int .u8 0,.int .u8 0,.int .u8 0,.nilf,.nilp,.int .i32 0,.int .i32 0])),48,false⟩),
 (367,⟨11,true,.struct,[(0,12),(1,12),(2,313),(3,361),(4,5),(5,5),(6,258),(7,362),(8,363),(9,364),(10,365)],(some (.agg [.int .u64 0,.int .u64 0,.int .u32 0,.int .u8 0,.int .u8 0,.int .u8 0,.int .u8 0,.nilf,.nilp,.int .i32 0,.int .i32 0])),48,false⟩),
 (368,⟨1,false,.other,[],(some (.nilf)),8,false⟩),
 (369,⟨1,false,.other,[],(some (.nilf)),8,false⟩),
 (370,⟨2,true,.struct,[(0,9),(1,258)],(some (.agg [.str [],.int .u8 0])),24,false⟩),
 (371,⟨2,true,.struct,[(0,9),(1,258)],(some (.agg [.str [],.int .u8 0])),24,false⟩),
 (372,⟨1,false,(.pointer 375),[],(some (.nilp)),8,true⟩),
 (373,⟨1,false,.other,[],(some (.nilf)),8,false⟩),
 (374,⟨5,true,.struct,[(0,364),(1,269),(2,269),(3,313),(4,313)],(some (.agg [.int .i32 0,.int .u16 0,.int .u16 0,.int .u32 0,.int .u32 0])),16,false⟩),
 (375,⟨5,true,.struct,[(0,364),(1,269),(2,269),(3,313),(4,313)],(some (.agg [.int .i32 0,.int .u16 0,.int .u16 0,.int .u32 0,.int .u32 0])),16,false⟩),
 (376,⟨1,false,(.slice 379),[],(some (.nils)),24,false⟩),
 (377,⟨1,false,(.int .i32),[],(some (.int .i32 0)),4,true⟩),
 (378,⟨4,true,.struct,[(0,364),(1,365),(2,377),(3,377)],(some (.agg [.int .i32 0,.int .i32 0,.int .i32 0,.int .i32 0])),16,false⟩),
 (379,⟨4,true,.struct,[(0,364),(1,365),(2,377),(3,377)],(some (.agg [.int .i32 0,.int .i32 0,.int .i32 0,.int .i32 0])),16,false⟩),
 (380,⟨1,false,(.pointer 141),[],(some (.nilp)),8,true⟩)]
def ss:Nat→Nat→Plan→Plan
 |_,0,r=>r
 |i,n+1,r=> .sil i (ss (i+1) n r)
def Tryz.plans:List (Nat×Nat×Plan):=[
 (3,11,(ss 0 2 (ss 3 2 (.eff 2 (.eff 5 (ss 6 3 (.sil 10 (.eff 9 (.eff 11 (.eff 12 (ss 13 2 .stop))))))))))),
 (3,16,(ss 0 6 (ss 7 6 (.eff 6 (.eff 13 (.sil 14 .stop)))))),
 (4,15,(ss 0 12 (.eff 12 (.sil 13 .stop)))),
 (4,22,(ss 0 8 (ss 9 2 (.eff 8 (.eff 11 (ss 12 2 .stop)))))),
 (4,27,(ss 0 6 (.sil 8 (.eff 6 (.sil 7 (ss 9 3 .stop)))))),
 (5,6,(.sil 0 (.sil 2 (.eff 1 (.eff 3 (.sil 4 .stop)))))),
 (16,8,(ss 0 6 (.alt (.eff 6 (ss 7 2 (.eff 9 (.eff 10 .stop)))) (.eff 9 (.eff 6 (ss 7 2 (.eff 10 .stop))))))),
 (18,2,(ss 0 6 (.eff 6 (ss 7 2 (.eff 9 .stop))))),
 (21,7,(ss 0 8 (ss 9 2 (.eff 8 (.eff 11 (ss 12 2 .stop)))))),
 (21,14,(ss 0 10 .stop)),
 (23,2,(ss 0 3 (.sil 6 (.eff 3 (.eff 4 (.sil 5 .stop)))))),
 (23,8,(ss 0 2 (ss 3 2 (.eff 2 (.sil 6 (.eff 5 (.eff 7 (.sil 8 (.eff 9 .stop))))))))),
 (24,6,(ss 0 6 (.eff 6 (ss 7 7 (.eff 14 (ss 15 2 .stop)))))),
 (25,6,(ss 0 8 (.eff 8 (.sil 9 .stop)))),
 (27,6,(ss 0 11 .stop)),
 (28,1,(ss 0 14 (.alt (.eff 14 (.eff 15 (.eff 16 (.eff 17 .stop)))) (.eff 15 (.eff 14 (.eff 16 (.eff 17 .stop))))))),
 (28,5,(ss 0 7 .stop)),
 (28,7,(ss 0 7 .stop)),
 (31,9,(ss 0 5 (.eff 5 (ss 6 2 .stop)))),
 (32,11,(ss 0 5 (.eff 5 (ss 6 6 (.eff 12 (ss 13 2 .stop)))))),
 (32,13,(ss 0 5 (.eff 5 (ss 6 6 (.eff 12 (ss 13 2 .stop)))))),
 (32,15,(ss 0 5 (.eff 5 (ss 6 2 .stop)))),
 (36,6,(ss 0 8 (.eff 8 (.sil 9 .stop)))),
 (37,6,(ss 0 9 .stop)),
 (38,6,(ss 0 9 .stop)),
 (40,5,(ss 0 12 (.eff 12 (.eff 13 (.sil 14 .stop))))),
 (41,8,(ss 0 7 (.eff 7 (.eff 8 (.sil 9 (.eff 10 .stop)))))),
 (41,17,(ss 0 5 (.eff 5 (.eff 6 (ss 7 5 (.eff 12 (ss 13 10 (.eff 23 (ss 24 3 .stop))))))))),
 (41,20,(ss 0 3 (ss 5 2 (.eff 3 (.eff 4 (.sil 7 (.eff 8 (.eff 9 .stop)))))))),
 (44,8,(ss 0 3 (.eff 3 (.sil 4 (.eff 5 .stop))))),
 (44,9,(.sil 1 (.sil 7 (.sil 10 (.alt (.eff 0 (.alt (.eff 2 (ss 3 3 (.alt (.eff 6 (.sil 14 (.alt (.eff 8 (.alt (.eff 9 (.eff 11 (ss 12 2 (.eff 15 (.sil 16 (.eff 17 (.sil 18 (.eff 19 .stop)))))))) (.eff 11 (.alt (.eff 9 (ss 12 2 (.eff 15 (.sil 16 (.eff 17 (.sil 18 (.eff 19 .stop))))))) (.eff 15 (.sil 16 (.alt (.eff 9 (ss 12 2 (.eff 17 (.sil 18 (.eff 19 .stop))))) (.eff 17 (.eff 9 (ss 12 2 (.sil 18 (.eff 19 .stop)))))))))))) (.eff 9 (.eff 8 (.eff 11 (ss 12 2 (.eff 15 (.sil 16 (.eff 17 (.sil 18 (.eff 19 .stop)))))))))))) (.alt (.eff 8 (.alt (.eff 6 (.sil 14 (.alt (.eff 9 (.eff 11 (ss 12 2 (.eff 15 (.sil 16 (.eff 17 (.sil 18 (.eff 19 .stop)))))))) (.eff 11 (.alt (.eff 9 (ss 12 2 (.eff 15 (.sil 16 (.eff 17 (.sil 18 (.eff 19 .stop))))))) (.eff 15 (.sil 16 (.alt (.eff 9 (ss 12 2 (.eff 17 (.sil 18 (.eff 19 .stop))))) (.eff 17 (.eff 9 (ss 12 2 (.sil 18 (.eff 19 .stop))))))))))))) (.alt (.eff 9 (.alt (.eff 6 (.sil 14 (.eff 11 (ss 12 2 (.eff 15 (.sil 16 (.eff 17 (.sil 18 (.eff 19 .stop))))))))) (.eff 11 (ss 12 2 (.eff 6 (.sil 14 (.eff 15 (.sil 16 (.eff 17 (.sil 18 (.eff 19 .stop))))))))))) (.eff 11 (.alt (.eff 6 (.sil 14 (.alt (.eff 9 (ss 12 2 (.eff 15 (.sil 16 (.eff 17 (.sil 18 (.eff 19 .stop))))))) (.eff 15 (.sil 16 (.alt (.eff 9 (ss 12 2 (.eff 17 (.sil 18 (.eff 19 .stop))))) (.eff 17 (.eff 9 (ss 12 2 (.sil 18 (.eff 19 .stop))))))))))) (.eff 9 (ss 12 2 (.eff 6 (.sil 14 (.eff 15 (.sil 16 (.eff 17 (.sil 18 (.eff 19 .stop)))))))))))))) (.eff 9 (.alt (.eff 6 (.sil 14 (.eff 8 (.eff 11 (ss 12 2 (.eff 15 (.sil 16 (.eff 17 (.sil 18 (.eff 19 .stop)))))))))) (.eff 8 (.alt (.eff 6 (.sil 14 (.eff 11 (ss 12 2 (.eff 15 (.sil 16 (.eff 17 (.sil 18 (.eff 19 .stop))))))))) (.eff 11 (ss 12 2 (.eff 6 (.sil 14 (.eff 15 (.sil 16 (.eff 17 (.sil 18 (.eff 19 .stop))))))))))))))))) (.eff 9 (.eff 2 (ss 3 3 (.alt (.eff 6 (.sil 14 (.eff 8 (.eff 11 (ss 12 2 (.eff 15 (.sil 16 (.eff 17 (.sil 18 (.eff 19 .stop)))))))))) (.eff 8 (.alt (.eff 6 (.sil 14 (.eff 11 (ss 12 2 (.eff 15 (.sil 16 (.eff 17 (.sil 18 (.eff 19 .stop))))))))) (.eff 11 (ss 12 2 (.eff 6 (.sil 14 (.eff 15 (.sil 16 (.eff 17 (.sil 18 (.eff 19 .stop))))))))))))))))) (.alt (.eff 2 (.alt (.eff 0 (ss 3 3 (.alt (.eff 6 (.sil 14 (.alt (.eff 8 (.alt (.eff 9 (.eff 11 (ss 12 2 (.eff 15 (.sil 16 (.eff 17 (.sil 18 (.eff 19 .stop)))))))) (.eff 11 (.alt (.eff 9 (ss 12 2 (.eff 15 (.sil 16 (.eff 17 (.sil 18 (.eff 19 .stop))))))) (.eff 15 (.sil 16 (.alt (.eff 9 (ss 12 2 (.eff 17 (.sil 18 (.eff 19 .stop))))) (.eff 17 (.eff 9 (ss 12 2 (.sil 18 (.eff 19 .stop)))))))))))) (.eff 9 (.eff 8 (.eff 11 (ss 12 2 (.eff 15 (.sil 16 (.eff 17 (.sil 18 (.eff 19 .stop)))))))))))) (.alt (.eff 8 (.alt (.eff 6 (.sil 14 (.alt (.eff 9 (.eff 11 (ss 12 2 (.eff 15 (.sil 16 (.eff 17 (.sil 18 (.eff 19 .stop)))))))) (.eff 11 (.alt (.eff 9 (ss 12 2 (.eff 15 (.sil 16 (.eff 17 (.sil 18 (.eff 19 .stop))))))) (.eff 15 (.sil 16 (.alt (.eff 9 (ss 12 2 (.eff 17 (.sil 18 (.eff 19 .stop))))) (.eff 17 (.eff 9 (ss 12 2 (.sil 18 (.eff 19 .stop))))))))))))) (.alt (.eff 9 (.alt (.eff 6 (.sil 14 (.eff 11 (ss 12 2 (.eff 15 (.sil 16 (.eff 17 (.sil 18 (.eff 19 .stop))))))))) (.eff 11 (ss 12 2 (.eff 6 (.sil 14 (.eff 15 (.sil 16 (.eff 17 (.sil 18 (.eff 19 .stop))))))))))) (.eff 11 (.alt (.eff 6 (.sil 14 (.alt (.eff 9 (ss 12 2 (.eff 15 (.sil 16 (.eff 17 (.sil 18 (.eff 19 .stop))))))) (.eff 15 (.sil 16 (.alt (.eff 9 (ss 12 2 (.eff 17 (.sil 18 (.eff 19 .stop))))) (.eff 17 (.eff 9 (ss 12 2 (.sil 18 (.eff 19 .stop))))))))))) (.eff 9 (ss 12 2 (.eff 6 (.sil 14 (.eff 15 (.sil 16 (.eff 17 (.sil 18 (.eff 19 .stop)))))))))))))) (.eff 9 (.alt (.eff 6 (.sil 14 (.eff 8 (.eff 11 (ss 12 2 (.eff 15 (.sil 16 (.eff 17 (.sil 18 (.eff 19 .stop)))))))))) (.eff 8 (.alt (.eff 6 (.sil 14 (.eff 11 (ss 12 2 (.eff 15 (.sil 16 (.eff 17 (.sil 18 (.eff 19 .stop))))))))) (.eff 11 (ss 12 2 (.eff 6 (.sil 14 (.eff 15 (.sil 16 (.eff 17 (.sil 18 (.eff 19 .stop))))))))))))))))) (.alt (.eff 8 (.alt (.eff 0 (ss 3 3 (.alt (.eff 6 (.sil 14 (.alt (.eff 9 (.eff 11 (ss 12 2 (.eff 15 (.sil 16 (.eff 17 (.sil 18 (.eff 19 .stop)))))))) (.eff 11 (.alt (.eff 9 (ss 12 2 (.eff 15 (.sil 16 (.eff 17 (.sil 18 (.eff 19 .stop))))))) (.eff 15 (.sil 16 (.alt (.eff 9 (ss 12 2 (.eff 17 (.sil 18 (.eff 19 .stop))))) (.eff 17 (.eff 9 (ss 12 2 (.sil 18 (.eff 19 .stop))))))))))))) (.alt (.eff 9 (.alt (.eff 6 (.sil 14 (.eff 11 (ss 12 2 (.eff 15 (.sil 16 (.eff 17 (.sil 18 (.eff 19 .stop))))))))) (.eff 11 (ss 12 2 (.eff 6 (.sil 14 (.eff 15 (.sil 16 (.eff 17 (.sil 18 (.eff 19 .stop))))))))))) (.eff 11 (.alt (.eff 6 (.sil 14 (.alt (.eff 9 (ss 12 2 (.eff 15 (.sil 16 (.eff 17 (.sil 18 (.eff 19 .stop))))))) (.eff 15 (.sil 16 (.alt (.eff 9 (ss 12 2 (.eff 17 (.sil 18 (.eff 19 .stop))))) (.eff 17 (.eff 9 (ss 12 2 (.sil 18 (.eff 19 .stop))))))))))) (.eff 9 (ss 12 2 (.eff 6 (.sil 14 (.eff 15 (.sil 16 (.eff 17 (.sil 18 (.eff 19 .stop))))))))))))))) (.alt (.eff 9 (.alt (.eff 0 (ss 3 3 (.alt (.eff 6 (.sil 14 (.eff 11 (ss 12 2 (.eff 15 (.sil 16 (.eff 17 (.sil 18 (.eff 19 .stop))))))))) (.eff 11 (ss 12 2 (.eff 6 (.sil 14 (.eff 15 (.sil 16 (.eff 17 (.sil 18 (.eff 19 .stop)))))))))))) (.eff 11 (ss 12 2 (.eff 0 (ss 3 3 (.eff 6 (.sil 14 (.eff 15 (.sil 16 (.eff 17 (.sil 18 (.eff 19 .stop))))))))))))) (.eff 11 (.alt (.eff 0 (ss 3 3 (.alt (.eff 6 (.sil 14 (.alt (.eff 9 (ss 12 2 (.eff 15 (.sil 16 (.eff 17 (.sil 18 (.eff 19 .stop))))))) (.eff 15 (.sil 16 (.alt (.eff 9 (ss 12 2 (.eff 17 (.sil 18 (.eff 19 .stop))))) (.eff 17 (.eff 9 (ss 12 2 (.sil 18 (.eff 19 .stop))))))))))) (.eff 9 (ss 12 2 (.eff 6 (.sil 14 (.eff 15 (.sil 16 (.eff 17 (.sil 18 (.eff 19 .stop)))))))))))) (.eff 9 (ss 12 2 (.eff 0 (ss 3 3 (.eff 6 (.sil 14 (.eff 15 (.sil 16 (.eff 17 (.sil 18 (.eff 19 .stop)))))))))))))))) (.eff 9 (.alt (.eff 0 (ss 3 3 (.alt (.eff 6 (.sil 14 (.eff 8 (.eff 11 (ss 12 2 (.eff 15 (.sil 16 (.eff 17 (.sil 18 (.eff 19 .stop)))))))))) (.eff 8 (.alt (.eff 6 (.sil 14 (.eff 11 (ss 12 2 (.eff 15 (.sil 16 (.eff 17 (.sil 18 (.eff 19 .stop))))))))) (.eff 11 (ss 12 2 (.eff 6 (.sil 14 (.eff 15 (.sil 16 (.eff 17 (.sil 18 (.eff 19 .stop)))))))))))))) (.eff 8 (.alt (.eff 0 (ss 3 3 (.alt (.eff 6 (.sil 14 (.eff 11 (ss 12 2 (.eff 15 (.sil 16 (.eff 17 (.sil 18 (.eff 19 .stop))))))))) (.eff 11 (ss 12 2 (.eff 6 (.sil 14 (.eff 15 (.sil 16 (.eff 17 (.sil 18 (.eff 19 .stop)))))))))))) (.eff 11 (ss 12 2 (.eff 0 (ss 3 3 (.eff 6 (.sil 14 (.eff 15 (.sil 16 (.eff 17 (.sil 18 (.eff 19 .stop)))))))))))))))))) (.eff 9 (.alt (.eff 0 (.eff 2 (ss 3 3 (.alt (.eff 6 (.sil 14 (.eff 8 (.eff 11 (ss 12 2 (.eff 15 (.sil 16 (.eff 17 (.sil 18 (.eff 19 .stop)))))))))) (.eff 8 (.alt (.eff 6 (.sil 14 (.eff 11 (ss 12 2 (.eff 15 (.sil 16 (.eff 17 (.sil 18 (.eff 19 .stop))))))))) (.eff 11 (ss 12 2 (.eff 6 (.sil 14 (.eff 15 (.sil 16 (.eff 17 (.sil 18 (.eff 19 .stop))))))))))))))) (.eff 2 (.alt (.eff 0 (ss 3 3 (.alt (.eff 6 (.sil 14 (.eff 8 (.eff 11 (ss 12 2 (.eff 15 (.sil 16 (.eff 17 (.sil 18 (.eff 19 .stop)))))))))) (.eff 8 (.alt (.eff 6 (.sil 14 (.eff 11 (ss 12 2 (.eff 15 (.sil 16 (.eff 17 (.sil 18 (.eff 19 .stop))))))))) (.eff 11 (ss 12 2 (.eff 6 (.sil 14 (.eff 15 (.sil 16 (.eff 17 (.sil 18 (.eff 19 .stop)))))))))))))) (.eff 8 (.alt (.eff 0 (ss 3 3 (.alt (.eff 6 (.sil 14 (.eff 11 (ss 12 2 (.eff 15 (.sil 16 (.eff 17 (.sil 18 (.eff 19 .stop))))))))) (.eff 11 (ss 12 2 (.eff 6 (.sil 14 (.eff 15 (.sil 16 (.eff 17 (.sil 18 (.eff 19 .stop)))))))))))) (.eff 11 (ss 12 2 (.eff 0 (ss 3 3 (.eff 6 (.sil 14 (.eff 15 (.sil 16 (.eff 17 (.sil 18 (.eff 19 .stop))))))))))))))))))))))),
 (48,9,(ss 0 2 (.eff 2 (ss 3 5 (ss 9 2 (.eff 8 (ss 11 2 .stop))))))),
 (48,11,(ss 0 2 (.sil 3 (.eff 2 (.eff 4 (.eff 5 (.sil 6 .stop))))))),
 (50,9,(.sil 0 (.sil 2 (.alt (.eff 1 (.eff 3 (.sil 4 (.eff 5 (.sil 6 (.eff 7 .stop)))))) (.eff 3 (.sil 4 (.alt (.eff 1 (.eff 5 (.sil 6 (.eff 7 .stop)))) (.eff 5 (.eff 1 (.sil 6 (.eff 7 .stop))))))))))),
 (59,9,(ss 0 5 (.eff 5 (.sil 6 (.eff 7 .stop))))),
 (59,10,(ss 0 2 (.eff 2 (.eff 3 .stop)))),
 (60,4,(ss 0 3 (.eff 3 (.eff 4 (ss 5 3 (.eff 8 .stop)))))),
 (63,1,(ss 0 14 .stop)),
 (63,4,(ss 0 15 .stop)),
 (70,3,(ss 0 4 (ss 5 2 (.eff 4 (.eff 7 (ss 8 2 .stop)))))),
 (75,6,(ss 0 20 .stop)),
 (75,7,(ss 0 4 (ss 7 2 (.eff 4 (.eff 5 (.eff 6 (ss 9 2 .stop))))))),
 (75,8,(ss 0 15 .stop)),
 (75,9,(ss 0 4 (ss 7 2 (.eff 4 (.eff 5 (.eff 6 (ss 9 2 .stop))))))),
 (75,3,(ss 0 7 .stop)),
 (75,5,(ss 0 2 (ss 5 4 (.eff 2 (.eff 3 (.eff 4 (ss 9 3 .stop))))))),
 (77,3,(ss 0 2 (.eff 2 (.eff 3 (.sil 4 (.eff 5 .stop)))))),
 (90,11,(ss 0 8 (ss 9 2 (.eff 8 (.eff 11 (ss 12 2 (.eff 14 (ss 15 2 (.eff 17 .stop))))))))),
 (96,7,(ss 0 34 .stop)),
 (98,5,(ss 0 15 (.eff 15 (ss 16 2 .stop)))),
 (99,2,(ss 0 7 (.eff 7 (.sil 8 (.eff 9 .stop))))),
 (99,4,(ss 0 7 (ss 8 3 (.eff 7 (.sil 11 (.eff 12 (.sil 13 (.eff 14 .stop)))))))),
 (102,7,(ss 0 3 (.eff 3 (ss 4 2 .stop)))),
 (108,11,(ss 0 11 (.alt (.eff 11 (ss 12 3 (.eff 15 (.eff 16 (.sil 17 .stop))))) (.eff 15 (.eff 11 (ss 12 3 (.eff 16 (.sil 17 .stop)))))))),
 (108,26,(ss 0 8 (.alt (.eff 8 (ss 9 3 (.eff 12 (.eff 13 (.sil 14 .stop))))) (.eff 12 (.eff 8 (ss 9 3 (.eff 13 (.sil 14 .stop)))))))),
 (109,1,(ss 0 9 (.alt (.eff 9 (ss 10 3 (.eff 13 (.eff 14 (.sil 15 .stop))))) (.eff 13 (.eff 9 (ss 10 3 (.eff 14 (.sil 15 .stop)))))))),
 (109,4,(ss 0 7 (.alt (.eff 7 (ss 8 3 (.eff 11 (.eff 12 (.sil 13 .stop))))) (.eff 11 (.eff 7 (ss 8 3 (.eff 12 (.sil 13 .stop)))))))),
 (110,8,(ss 0 24 .stop)),
 (111,1,(ss 0 11 .stop)),
 (112,6,(ss 0 4 (.alt (.eff 4 (ss 5 2 (.eff 7 (.eff 8 .stop)))) (.eff 7 (.eff 4 (ss 5 2 (.eff 8 .stop))))))),
 (112,8,(ss 0 8 (.eff 8 .stop))),
 (112,12,(.sil 0 (ss 3 5 (.eff 1 (.sil 2 (.eff 8 (.sil 9 (.eff 10 .stop)))))))),
 (114,9,(ss 0 12 .stop)),
 (114,11,(ss 0 8 .stop)),
 (116,1,(ss 0 4 (ss 5 4 (ss 10 4 (.eff 4 (.eff 9 (.eff 14 (.eff 15 (.eff 16 (.sil 17 .stop)))))))))),
 (121,1,(ss 0 2 (ss 3 2 (.eff 2 (.sil 6 (.eff 5 (.eff 7 (.sil 8 (.eff 9 .stop))))))))),
 (122,21,(ss 0 6 .stop)),
 (123,3,(ss 0 2 (.eff 2 (.eff 3 (.sil 4 (.eff 5 .stop)))))),
 (124,1,(ss 0 45 .stop)),
 (149,1,(ss 0 5 (.eff 5 (.eff 6 (.sil 7 .stop))))),
 (149,8,(ss 0 12 .stop)),
 (149,10,(ss 0 8 .stop)),
 (163,9,(ss 0 35 .stop)),
 (166,3,(ss 0 2 (ss 3 2 (ss 6 3 (.eff 2 (.eff 5 (.eff 9 (.sil 10 .stop)))))))),
 (166,8,(ss 0 3 (ss 4 2 (ss 7 2 (ss 10 3 (.eff 3 (.eff 6 (.eff 9 (.eff 13 (.sil 14 .stop)))))))))),
 (166,13,(ss 0 3 (ss 4 3 (ss 8 3 (ss 12 3 (.eff 3 (.eff 7 (.eff 11 (.eff 15 (.sil 16 .stop)))))))))),
 (167,3,(.sil 1 (.sil 3 (.alt (.eff 0 (.alt (.eff 2 (.eff 4 (.eff 5 (ss 6 2 .stop)))) (.eff 4 (.eff 2 (.eff 5 (ss 6 2 .stop)))))) (.eff 4 (.eff 0 (.eff 2 (.eff 5 (ss 6 2 .stop))))))))),
 (168,3,(ss 1 3 (ss 5 4 (ss 10 4 (.eff 0 (.eff 4 (.eff 9 (.sil 14 (.eff 15 (.sil 16 .stop)))))))))),
 (169,23,(ss 0 3 (.eff 3 (.eff 4 (.eff 5 (.sil 6 (.eff 7 .stop))))))),
 (169,31,(ss 0 4 (ss 6 6 (.eff 4 (.eff 5 (.sil 12 (.eff 13 (ss 14 2 (.eff 16 .stop))))))))),
 (170,17,(ss 0 6 (.eff 6 (.eff 7 (.sil 8 .stop))))),
 (170,18,(ss 0 2 (.eff 2 (ss 3 5 (ss 9 2 (.eff 8 (ss 11 2 .stop))))))),
 (175,6,(ss 0 6 .stop)),
 (175,8,(ss 0 32 .stop)),
 (180,11,(ss 0 24 .stop)),
 (180,15,(ss 0 13 (.eff 13 .stop))),
 (205,1,(ss 0 5 (ss 6 3 (.eff 5 (ss 9 4 (.eff 13 (ss 14 2 .stop))))))),
 (207,16,(ss 0 17 .stop)),
 (207,17,(ss 0 24 .stop)),
 (208,4,(ss 0 2 (ss 3 2 (.eff 2 (.sil 5 .stop))))),
 (208,7,(ss 0 6 (.sil 7 (.eff 6 (.eff 8 (.sil 9 (.eff 10 (.sil 11 (.eff 12 .stop))))))))),
 (209,8,(ss 0 2 (.sil 3 (.eff 2 (.eff 4 (.eff 5 (.sil 6 .stop))))))),
 (210,2,(ss 1 2 (.sil 4 (.alt (.eff 0 (.alt (.eff 3 (.eff 5 (.eff 6 (.sil 7 (.eff 8 .stop))))) (.eff 5 (.eff 3 (.eff 6 (.sil 7 (.eff 8 .stop))))))) (.eff 5 (.eff 0 (.eff 3 (.eff 6 (.sil 7 (.eff 8 .stop)))))))))),
 (211,6,(ss 0 6 (.eff 6 (ss 7 30 .stop)))),
 (211,11,(ss 0 5 (.eff 5 (ss 6 18 (.eff 24 (ss 25 3 .stop)))))),
 (214,3,(ss 0 3 (ss 4 3 (ss 8 3 (ss 12 3 (.eff 3 (.eff 7 (.eff 11 (.eff 15 (.sil 16 .stop)))))))))),
 (214,4,(ss 0 3 (ss 5 3 (.eff 3 (.eff 4 (.eff 8 (.sil 9 .stop))))))),
 (214,8,(ss 0 7 (ss 8 6 (.eff 7 (.eff 14 (.sil 15 .stop)))))),
 (214,9,(ss 0 3 (ss 4 2 (.eff 3 (.eff 6 (.sil 7 .stop)))))),
 (218,18,(.sil 0 (ss 3 4 (.eff 1 (.sil 2 (.sil 7 .stop)))))),
 (219,8,(ss 0 16 (.eff 16 .stop))),
 (246,3,(ss 0 39 .stop)),
 (246,7,(ss 0 13 .stop)),
 (251,4,(ss 0 3 (ss 4 2 (.eff 3 (.eff 6 (.sil 7 .stop)))))),
 (255,15,(ss 0 2 (.eff 2 (.eff 3 (.sil 4 .stop))))),
 (255,16,(ss 0 2 (.eff 2 (.eff 3 (.sil 4 .stop))))),
 (257,4,(ss 0 20 (.eff 20 (ss 21 20 .stop)))),
 (271,2,(ss 0 2 (.eff 2 (.eff 3 (.sil 4 .stop))))),
 (272,2,(ss 0 2 (.eff 2 (.eff 3 (.sil 4 .stop))))),
 (272,3,(ss 0 12 (.eff 12 (ss 13 2 (.eff 15 .stop))))),
 (281,6,(ss 0 7 .stop)),
 (281,7,(ss 0 7 (.eff 7 (.sil 8 .stop)))),
 (281,14,(ss 0 11 .stop)),
 (281,31,(ss 0 11 .stop))]
def Tryz.lives:List (Nat×Nat×List (Nat×Nat)):=[
 (3,8,[(5,1),(6,0),(7,0)]),
 (3,14,[(5,1),(6,0),(7,0),(8,0),(9,0)]),
 (4,12,[(3,0),(4,0),(5,0),(6,0),(7,0)]),
 (4,19,[(3,0),(4,0),(5,0),(6,0),(7,0),(8,0),(9,0),(10,0)]),
 (4,25,[(3,0),(4,0),(5,0),(6,0),(7,0),(8,0),(9,0),(10,0),(11,0),(12,0)]),
 (16,4,[(2,0),(3,0),(4,0),(5,0)]),
 (21,4,[(2,0),(3,0),(5,0),(6,1),(7,0)]),
 (21,12,[(2,0),(3,0),(5,0),(6,1),(7,0),(8,0),(9,0)]),
 (23,3,[(1,0),(2,0),(3,0),(11,1),(12,0),(13,0)]),
 (24,4,[(1,0),(2,0),(3,0),(4,10),(5,0)]),
 (25,4,[(0,1),(1,1),(5,0)]),
 (27,4,[(2,0),(3,0),(5,0)]),
 (28,3,[(5,0),(6,0),(7,0)]),
 (29,2,[(0,1),(1,0),(4,0),(5,0)]),
 (36,4,[(0,1),(1,1),(5,0)]),
 (37,4,[(0,1),(1,1),(5,0)]),
 (38,4,[(0,1),(1,1),(5,0)]),
 (39,2,[(0,1),(1,0),(4,0),(6,0)]),
 (40,3,[(0,1),(3,6),(4,0)]),
 (41,5,[(1,0),(2,0),(3,0),(6,0),(8,0),(9,0)]),
 (41,11,[(2,0),(3,0),(6,0),(8,0),(10,1),(11,0)]),
 (41,14,[(2,0),(3,0),(6,0),(8,0),(10,1),(11,0),(12,0),(13,0),(14,0)]),
 (50,5,[(0,0),(1,0),(6,0),(8,0),(9,0)]),
 (60,2,[(0,0),(2,0),(4,0),(6,0),(7,0)]),
 (62,3,[(1,0),(2,0),(3,0),(4,0)]),
 (64,3,[(1,0),(3,1),(4,0)]),
 (66,3,[(0,0),(3,4),(4,0)]),
 (70,6,[(3,0),(23,1),(24,0),(25,0)]),
 (75,1,[(0,1),(1,1),(4,7)]),
 (76,5,[(0,0),(5,6),(6,0)]),
 (77,2,[(0,0),(2,0),(3,0)]),
 (79,3,[(1,0),(3,0),(4,0)]),
 (80,2,[(1,0),(2,0),(6,0)]),
 (90,3,[(1,0),(2,0),(3,10),(11,10),(12,0),(13,0)]),
 (90,9,[(1,0),(2,0),(33,7),(34,0),(35,0)]),
 (96,4,[(1,0),(3,0)]),
 (98,3,[(2,0),(3,0),(4,0),(7,0),(8,0)]),
 (107,5,[(0,0),(3,0),(8,0),(10,0),(11,0)]),
 (110,3,[(1,1),(5,7),(6,0)]),
 (110,6,[(1,1),(5,7),(6,0),(7,0)]),
 (113,3,[(0,0),(1,0),(5,4),(6,0)]),
 (113,7,[(0,0),(1,0),(5,4),(7,0)]),
 (114,7,[(0,1),(3,0),(7,10),(8,0),(9,0)]),
 (115,2,[(0,1),(1,0),(7,0),(8,0)]),
 (118,2,[(1,0),(4,10),(7,1),(8,0),(9,0)]),
 (122,3,[(0,0),(2,0),(4,0)]),
 (122,10,[(0,0),(2,0),(4,0),(5,0)]),
 (122,19,[(0,0),(2,0),(6,0),(7,0)]),
 (123,2,[(0,0),(2,0),(3,0)]),
 (148,2,[(0,0),(1,0),(5,0)]),
 (149,6,[(0,1),(3,0),(5,6),(6,0),(7,0)]),
 (157,3,[(0,0),(2,6),(3,0)]),
 (163,4,[(0,0),(1,1),(5,0)]),
 (163,13,[(0,0),(7,1),(8,0)]),
 (165,2,[(0,1),(1,0),(2,0),(7,0)]),
 (166,5,[(2,0),(6,3),(7,0)]),
 (166,10,[(2,0),(6,3),(7,0),(8,0),(9,0)]),
 (166,15,[(2,0),(6,3),(7,0),(8,0),(11,0)]),
 (166,20,[(2,0),(6,3),(12,0)]),
 (169,7,[(0,1),(1,0),(4,104069000),(6,1000),(7,104069000),(8,0)]),
 (169,13,[(0,1),(1,0),(4,104069000),(6,1000),(7,104069000),(8,0),(9,129100000),(10,0)]),
 (169,21,[(0,1),(1,0),(4,104069000),(6,1000),(7,104069000),(8,0),(9,129100000),(12,0)]),
 (169,26,[(0,1),(1,0),(4,104069000),(6,1000),(7,104069000),(13,0)]),
 (170,13,[(3,0),(4,0),(6,0),(7,0),(8,0),(10,0),(11,0)]),
 (175,4,[(0,1),(3,0),(5,4),(6,0),(7,0)]),
 (176,3,[(3,0),(6,1),(7,0),(8,0)]),
 (194,2,[(0,1),(1,0),(7,0),(8,0)]),
 (197,2,[(0,1),(1,0),(7,0),(8,0)]),
 (204,1,[(0,0),(1,0),(3,0),(6,0)]),
 (204,18,[(1,0),(3,0),(6,0),(48,3),(49,0),(50,0)]),
 (207,3,[(0,0),(1,1),(2,0),(7,3),(8,0)]),
 (207,8,[(1,1),(7,3),(9,0)]),
 (207,11,[(1,1),(7,3),(9,0),(10,0)]),
 (207,14,[(1,1),(7,3),(9,0),(10,0),(11,0)]),
 (211,4,[(1,0),(2,0),(5,0)]),
 (211,9,[(2,0),(6,0)]),
 (212,2,[(1,0),(5,3)]),
 (214,6,[(0,1),(3,0),(5,0)]),
 (215,3,[(0,1),(3,0),(4,0)]),
 (215,6,[(0,1),(3,0),(4,0),(5,0)]),
 (218,8,[(0,1),(2,0),(5,0),(6,0),(7,0)]),
 (219,3,[(0,1),(1,0),(5,3),(6,0)]),
 (219,6,[(0,1),(1,0),(5,3),(6,0),(7,0)]),
 (220,3,[(0,1),(1,0),(2,0),(8,0),(9,0),(10,0)]),
 (233,1,[(0,0),(1,0),(4,0)]),
 (234,2,[(0,0),(2,0),(5,0),(6,0)]),
 (235,4,[(0,0),(1,0),(2,0),(3,0),(8,0)]),
 (242,9,[(1,0),(2,0),(8,0)]),
 (244,3,[(0,1),(5,0),(6,0),(7,0)]),
 (257,2,[(0,1),(3,0)]),
 (263,1,[(0,0),(1,0)]),
 (264,1,[(0,0),(1,0)]),
 (265,2,[(0,0),(2,0),(4,0)]),
 (266,1,[(0,0),(1,0)]),
 (267,1,[(0,0),(1,0)]),
 (268,1,[(0,0),(1,0)]),
 (269,1,[(0,0),(1,0)]),
 (278,10,[(0,0),(4,0),(5,0),(6,0)]),
 (281,38,[(175,0)])]
def Tryz.digs:List (Nat×Nat×List Dig):=[
 (41,17,[(some 93,[15],[]),(some 94,[93],[0]),(some 95,[10],[]),(some 96,[15],[]),(some 97,[96],[3]),(some 98,[95,97],[2,4]),(some 99,[94,98],[1,5,5]),(some 100,[99],[6]),(some 101,[100],[7,6]),(some 102,[15,101],[8]),(some 103,[102,101],[9,8]),(some 104,[11,101],[8]),(some 105,[103,104,101],[10,11,8,8]),(some 106,[105,101],[12,8]),(some 107,[101,106],[8,13]),(some 108,[107],[14,12]),(some 109,[13,108],[15]),(some 110,[109,108],[16,15]),(some 111,[110,108],[17,15,15]),(some 112,[15,111],[18]),(some 113,[112,111],[19,18]),(some 114,[12,111],[18]),(some 115,[114,111],[21,18]),(some 116,[113,115,111],[20,22,18,18]),(some 117,[116,111],[23,18]),(some 118,[111,117,108],[18,24,15]),(some 119,[108,118],[15,25])]),
 (96,7,[(some 58,[4],[]),(some 59,[58],[0]),(some 60,[59],[1]),(some 61,[60],[2]),(some 62,[4,61],[3]),(some 63,[62,61],[4,3]),(some 64,[63,61],[5,3]),(some 65,[61,64],[3,6]),(some 66,[65],[7,3]),(some 67,[4,66],[8]),(some 68,[67,66],[9,8]),(some 69,[68,66],[10,8]),(some 70,[66,69],[8,11]),(some 71,[70],[12,8]),(some 72,[4,71],[13]),(some 73,[72,71],[14,13]),(some 74,[73,71],[15,13]),(some 75,[71,74],[13,16]),(some 76,[75],[17,13]),(some 77,[3,76],[18]),(some 78,[77,76],[19,18]),(some 79,[78,76],[20,18,18]),(some 80,[4,79],[21]),(some 81,[80,79],[22,21]),(some 82,[1,79],[21]),(some 83,[82,79],[24,21]),(some 84,[3,79],[21]),(some 85,[84,79],[26,21]),(some 86,[83,85,79],[25,27,21]),(some 87,[86,79],[28,21]),(some 88,[87,79],[29,21]),(some 89,[81,88,79],[23,30,21]),(some 90,[79,89,76],[21,31,18]),(some 91,[76,90],[18,32])]),
 (110,8,[(some 23,[5],[]),(some 24,[7],[]),(some 25,[23,24],[0,1]),(some 26,[25],[2]),(some 27,[26],[3]),(some 28,[1],[]),(some 29,[6],[]),(some 30,[28,29],[5,6]),(some 31,[30],[7]),(some 32,[31],[8]),(some 33,[27,32],[4,9]),(some 34,[33],[10]),(some 35,[1,34],[11]),(some 36,[6,34],[11]),(some 37,[35,36,34],[12,13,11]),(some 38,[37,34],[14,11]),(some 39,[38,34],[15,11]),(some 40,[5,34],[11]),(some 41,[7,34],[11]),(some 42,[40,41,34],[17,18,11]),(some 43,[42,34],[19,11]),(some 44,[43,34],[20,11]),(some 45,[39,44,34],[16,21,11]),(some 46,[34,45],[11,22])]),
 (124,1,[(some 5,[0],[]),(some 6,[5],[0]),(some 7,[6],[1]),(some 8,[7],[2]),(some 9,[8],[3]),(some 10,[0,9],[4]),(some 11,[10,9],[5,4]),(some 12,[11,9],[6,4]),(some 13,[12,9],[7,4]),(some 14,[0,9],[4]),(some 15,[14,9],[9,4]),(some 16,[15,9],[10,4]),(some 17,[16,9],[11,4]),(some 18,[17,9],[12,4]),(some 19,[13,18,9],[8,13,4]),(some 20,[9,19],[4,14]),(some 21,[20],[15,4]),(some 22,[0,21],[16]),(some 23,[22,21],[17,16]),(some 24,[23,21],[18,16]),(some 25,[24,21],[19,16]),(some 26,[0,21],[16]),(some 27,[26,21],[21,16]),(some 28,[27,21],[22,16]),(some 29,[28,21],[23,16]),(some 30,[25,29,21],[20,24,16]),(some 31,[30,21],[25,16]),(some 32,[31,21],[26,16]),(some 33,[32,21],[27,16]),(some 34,[21,33],[16,28]),(some 35,[34],[29,16]),(some 36,[0,35],[30]),(some 37,[36,35],[31,30]),(some 38,[37,35],[32,30]),(some 39,[38,35],[33,30]),(some 40,[0,35],[30]),(some 41,[40,35],[35,30]),(some 42,[41,35],[36,30]),(some 43,[42,35],[37,30]),(some 44,[39,43,35],[34,38,30]),(some 45,[44,35],[39,30]),(some 46,[45,35],[40,30]),(some 47,[1,35],[30]),(some 48,[46,47,35],[41,42,30]),(some 49,[35,48],[30,43])]),
 (163,9,[(some 41,[5],[]),(some 42,[41],[0]),(some 43,[42],[1]),(some 44,[1,43],[2]),(some 45,[5,43],[2]),(some 46,[45,43],[4,2]),(some 47,[44,46,43],[3,5,2]),(some 48,[47,43],[6,2]),(some 49,[48,43],[7,2]),(some 50,[6,43],[2]),(some 51,[50,43],[9,2]),(some 52,[49,51,43],[8,10,2]),(some 53,[52,43],[11,2,2]),(some 54,[1,53],[12]),(some 55,[5,53],[12]),(some 56,[55,53],[14,12]),(some 57,[54,56,53],[13,15,12]),(some 58,[57,53],[16,12]),(some 59,[58,53],[17,12]),(some 60,[6,53],[12]),(some 61,[60,53],[19,12]),(some 62,[59,61,53],[18,20,12]),(some 63,[62,53],[21,12,12]),(some 64,[1,63],[22]),(some 65,[5,63],[22]),(some 66,[65,63],[24,22]),(some 67,[64,66,63],[23,25,22]),(some 68,[67,63],[26,22]),(some 69,[68,63],[27,22]),(some 70,[6,63],[22]),(some 71,[70,63],[29,22]),(some 72,[69,71,63],[28,30,22]),(some 73,[63,72,53],[22,31,12]),(some 74,[53,73,43],[12,32,2]),(some 75,[43,74],[2,33])]),
 (175,8,[(some 21,[6],[]),(some 22,[21],[0]),(some 23,[22],[1]),(some 24,[0,23],[2]),(some 25,[7,23],[2]),(some 26,[24,25,23],[3,4,2]),(some 27,[26,23],[5,2]),(some 28,[27,23],[6,2]),(some 29,[3,23],[2]),(some 30,[29,23],[8,2]),(some 31,[28,30,23],[7,9,2]),(some 32,[31,23],[10,2,2]),(some 33,[0,32],[11]),(some 34,[7,32],[11]),(some 35,[33,34,32],[12,13,11]),(some 36,[35,32],[14,11]),(some 37,[36,32],[15,11]),(some 38,[3,32],[11]),(some 39,[38,32],[17,11]),(some 40,[37,39,32],[16,18,11]),(some 41,[40,32],[19,11,11]),(some 42,[0,41],[20]),(some 43,[7,41],[20]),(some 44,[42,43,41],[21,22,20]),(some 45,[44,41],[23,20]),(some 46,[45,41],[24,20]),(some 47,[3,41],[20]),(some 48,[47,41],[26,20]),(some 49,[46,48,41],[25,27,20]),(some 50,[41,49,32],[20,28,11]),(some 51,[32,50,23],[11,29,2]),(some 52,[23,51],[2,30])]),
 (180,11,[(some 33,[0],[]),(some 34,[33],[0]),(some 35,[34],[1]),(some 36,[35],[2]),(some 37,[0],[]),(some 38,[37],[4]),(some 39,[38],[5]),(some 40,[39],[6]),(some 41,[40],[7]),(some 42,[36,41],[3,8]),(some 43,[42],[9]),(some 44,[0,43],[10]),(some 45,[44,43],[11,10]),(some 46,[45,43],[12,10]),(some 47,[46,43],[13,10]),(some 48,[0,43],[10]),(some 49,[48,43],[15,10]),(some 50,[49,43],[16,10]),(some 51,[50,43],[17,10]),(some 52,[47,51,43],[14,18,10]),(some 53,[52,43],[19,10]),(some 54,[53,43],[20,10]),(some 55,[54,43],[21,10]),(some 56,[43,55],[10,22])]),
 (207,17,[(some 54,[7],[]),(some 55,[12],[]),(some 56,[54,55],[0,1]),(some 57,[56],[2]),(some 58,[57],[3]),(some 59,[58],[4]),(some 60,[7,59],[5]),(some 61,[13,59],[5]),(some 62,[60,61,59],[6,7,5]),(some 63,[62,59],[8,5]),(some 64,[63,59],[9,5]),(some 65,[64,59],[10,5,5]),(some 66,[7,65],[11]),(some 67,[13,65],[11]),(some 68,[66,67,65],[12,13,11]),(some 69,[68,65],[14,11]),(some 70,[7,65],[11]),(some 71,[12,65],[11]),(some 72,[70,71,65],[16,17,11]),(some 73,[72,65],[18,11]),(some 74,[73,65],[19,11]),(some 75,[69,74,65],[15,20,11]),(some 76,[65,75,59],[11,21,5]),(some 77,[59,76],[5,22])]),
 (211,6,[(some 47,[2],[]),(some 48,[47],[0]),(some 49,[5],[]),(some 50,[48,49],[1,2]),(some 51,[50],[3]),(some 52,[1],[]),(some 53,[51,52],[4,5]),(some 54,[53],[6]),(some 55,[54],[7,6]),(some 56,[2,55],[8]),(some 57,[56,55],[9,8]),(some 58,[5,55],[8]),(some 59,[57,58,55],[10,11,8]),(some 60,[59,55],[12,8]),(some 61,[60,55],[13,8]),(some 62,[61,55],[14,8]),(some 63,[55,62],[8,15]),(some 64,[63],[16,8]),(some 65,[5,64],[17]),(some 66,[65,64],[18,17]),(some 67,[66,64],[19,17,17]),(some 68,[2,67],[20]),(some 69,[68,67],[21,20]),(some 70,[5,67],[20]),(some 71,[69,70,67],[22,23,20]),(some 72,[71,67],[24,20]),(some 73,[72,67],[25,20]),(some 74,[2,67],[20]),(some 75,[74,67],[27,20]),(some 76,[5,67],[20]),(some 77,[76,67],[29,20]),(some 78,[75,77,67],[28,30,20]),(some 79,[78,67],[31,20]),(some 80,[79,67],[32,20]),(some 81,[73,80,67],[26,33,20]),(some 82,[67,81,64],[20,34,17]),(some 83,[64,82],[17,35])]),
 (211,11,[(some 91,[2],[]),(some 92,[91],[0]),(some 93,[6],[]),(some 94,[92,93],[1,2]),(some 95,[94],[3]),(some 96,[95],[4]),(some 97,[96],[5]),(some 98,[97],[6,5]),(some 99,[6,98],[7]),(some 100,[99,98],[8,7]),(some 101,[100,98],[9,7,7]),(some 102,[2,101],[10]),(some 103,[102,101],[11,10]),(some 104,[6,101],[10]),(some 105,[104,101],[13,10]),(some 106,[103,105,101],[12,14,10]),(some 107,[106,101],[15,10]),(some 108,[107,101],[16,10]),(some 109,[2,101],[10]),(some 110,[109,101],[18,10]),(some 111,[6,101],[10]),(some 112,[110,111,101],[19,20,10]),(some 113,[112,101],[21,10]),(some 114,[113,101],[22,10]),(some 115,[108,114,101],[17,23,10,10]),(some 116,[115,101],[24,10]),(some 117,[101,116,98],[10,25,7]),(some 118,[98,117],[7,26])]),
 (246,3,[(some 9,[0],[]),(some 10,[9],[0]),(some 11,[10],[1]),(some 12,[11],[2]),(some 13,[0],[]),(some 14,[13],[4]),(some 15,[14],[5]),(some 16,[15],[6]),(some 17,[16],[7]),(some 18,[12,17],[3,8]),(some 19,[18],[9]),(some 20,[0,19],[10]),(some 21,[20,19],[11,10]),(some 22,[21,19],[12,10]),(some 23,[22,19],[13,10]),(some 24,[0,19],[10]),(some 25,[24,19],[15,10]),(some 26,[25,19],[16,10]),(some 27,[26,19],[17,10]),(some 28,[23,27,19],[14,18,10]),(some 29,[28,19],[19,10]),(some 30,[29,19],[20,10]),(some 31,[30,19],[21,10]),(some 32,[19,31],[10,22]),(some 33,[32],[23,10]),(some 34,[0,33],[24]),(some 35,[34,33],[25,24]),(some 36,[35,33],[26,24]),(some 37,[36,33],[27,24]),(some 38,[0,33],[24]),(some 39,[38,33],[29,24]),(some 40,[39,33],[30,24]),(some 41,[40,33],[31,24]),(some 42,[37,41,33],[28,32,24]),(some 43,[42,33],[33,24]),(some 44,[43,33],[34,24]),(some 45,[1,33],[24]),(some 46,[44,45,33],[35,36,24]),(some 47,[33,46],[24,37])]),
 (257,4,[(some 10,[0],[]),(some 11,[3],[]),(some 12,[10,11],[0,1]),(some 13,[12],[2]),(some 14,[13],[3]),(some 15,[14],[4]),(some 16,[15],[5]),(some 17,[0,16],[6]),(some 18,[3,16],[6]),(some 19,[17,18,16],[7,8,6]),(some 20,[19,16],[9,6]),(some 21,[20,16],[10,6]),(some 22,[21,16],[11,6]),(some 23,[16,22],[6,12]),(some 24,[23],[13,6]),(some 25,[0,24],[14]),(some 26,[3,24],[14]),(some 27,[25,26,24],[15,16,14]),(some 28,[27,24],[17,14]),(some 29,[28,24],[18,14]),(some 30,[29,24],[19,14,14]),(some 31,[30,24],[20,14]),(some 32,[24,31],[14,21]),(some 33,[32],[22,20]),(some 34,[3,33],[23]),(some 35,[34,33],[24,23]),(some 36,[35,33],[25,23,23]),(some 37,[0,36],[26]),(some 38,[3,36],[26]),(some 39,[37,38,36],[27,28,26]),(some 40,[39,36],[29,26]),(some 41,[40,36],[30,26]),(some 42,[0,36],[26]),(some 43,[3,36],[26]),(some 44,[43,36],[33,26]),(some 45,[42,44,36],[32,34,26]),(some 46,[45,36],[35,26]),(some 47,[46,36],[36,26]),(some 48,[41,47,36],[31,37,26]),(some 49,[36,48,33],[26,38,23]),(some 50,[33,49],[23,39])])]
def Tryz.nilszs:List (Nat×Nat):=[(17,0),(118,8),(128,5),(136,8),(137,2),(138,4),(139,1),(186,8),(212,1),(213,1),(214,1)]
def Tryz.globs:List (Nat×AV):=[(0,.iface 281 (.agg [.raw (.pointer (some ⟨4,141,none⟩))]))]
noncomputable def Tryz.phi:Phi:=phi1 0 (.iface 281 (.agg #[.pointer (some ⟨4,141,none⟩)]))
def Tryz.cfg:Cfg:={ tab:=Tryz.tab,live:=fun f r=>look2 [] Tryz.lives f r,opens:=fun f=>memN f [18,19,44,51,60,61,63,65,66,67,77,78,83,84,85,89,111,112,113,123,124,127,129,158,159,180,187,189,199,200,201,202,203,204,216,217,222,226,228,235,236,237,238,246,249,250,254,255,261,262,271,272,273,312],fresh:=fun f=>memN f [17,118,128,136,137,138,139,186,212,213,214],nilsz:=fun f=>(look1 Tryz.nilszs f).getD 0,plan:=fun f r=>look2 .stop Tryz.plans f r,glob:=fun g=>look1 Tryz.globs g }
def Tryz.X:Ctx:={ cfg:=Tryz.cfg,call:=SoundCall Go.Proofs.Tryz.prog Tryz.phi,meth:=IsMeth Go.Proofs.Tryz.prog,ta:=Asserts Go.Proofs.Tryz.prog }
set_option maxRecDepth 100000
theorem Tryz.tabOk:tabB Go.Proofs.Tryz.prog Tryz.tab Tryz.tab=true:=by kernel_rfl
theorem Tryz.mixed:Go.Proofs.Tryz.prog.follows .mixedOrders=true:=by kernel_rfl
theorem Tryz.ok:CtxOk Go.Proofs.Tryz.prog Tryz.phi Tryz.X:=⟨tabB_ok Tryz.tabOk,fun _ _ _ _ h=>h,fun _ _ _ _ h=>h,fun _ _ _ h=>h,Tryz.mixed,fun _ _ h=>look1_one (Q:=fun g v=>R (phi1 0 (.iface 281 (.agg #[.pointer (some ⟨4,141,none⟩)]))) m0 (.cptr v) (.pointer (some ⟨g,0,none⟩))) (glob_hand (g:=0)) h⟩
noncomputable def Tryz.fns:List (Nat×Func):=[(3,Go.Proofs.Tryz.f3),(4,Go.Proofs.Tryz.f4),(5,Go.Proofs.Tryz.f5),(15,Go.Proofs.Tryz.f15),(16,Go.Proofs.Tryz.f16),(17,Go.Proofs.Tryz.f17),(18,Go.Proofs.Tryz.f18),(19,Go.Proofs.Tryz.f19),(20,Go.Proofs.Tryz.f20),(21,Go.Proofs.Tryz.f21),(22,Go.Proofs.Tryz.f22),(23,Go.Proofs.Tryz.f23),(24,Go.Proofs.Tryz.f24),(25,Go.Proofs.Tryz.f25),(26,Go.Proofs.Tryz.f26),(27,Go.Proofs.Tryz.f27),(28,Go.Proofs.Tryz.f28),(29,Go.Proofs.Tryz.f29),(30,Go.Proofs.Tryz.f30),(31,Go.Proofs.Tryz.f31),(32,Go.Proofs.Tryz.f32),(36,Go.Proofs.Tryz.f36),(37,Go.Proofs.Tryz.f37),(38,Go.Proofs.Tryz.f38),(39,Go.Proofs.Tryz.f39),(40,Go.Proofs.Tryz.f40),(41,Go.Proofs.Tryz.f41),(42,Go.Proofs.Tryz.f42),(44,Go.Proofs.Tryz.f44),(47,Go.Proofs.Tryz.f47),(48,Go.Proofs.Tryz.f48),(50,Go.Proofs.Tryz.f50),(57,Go.Proofs.Tryz.f57),(59,Go.Proofs.Tryz.f59),(60,Go.Proofs.Tryz.f60),(61,Go.Proofs.Tryz.f61),(62,Go.Proofs.Tryz.f62),(63,Go.Proofs.Tryz.f63),(64,Go.Proofs.Tryz.f64),(65,Go.Proofs.Tryz.f65),(66,Go.Proofs.Tryz.f66),(67,Go.Proofs.Tryz.f67),(68,Go.Proofs.Tryz.f68),(69,Go.Proofs.Tryz.f69),(70,Go.Proofs.Tryz.f70),(71,Go.Proofs.Tryz.f71),(72,Go.Proofs.Tryz.f72),(73,Go.Proofs.Tryz.f73),(74,Go.Proofs.Tryz.f74),(75,Go.Proofs.Tryz.f75),(76,Go.Proofs.Tryz.f76),(77,Go.Proofs.Tryz.f77),(78,Go.Proofs.Tryz.f78),(79,Go.Proofs.Tryz.f79),(80,Go.Proofs.Tryz.f80),(81,Go.Proofs.Tryz.f81),(89,Go.Proofs.Tryz.f89),(90,Go.Proofs.Tryz.f90),(95,Go.Proofs.Tryz.f95),(96,Go.Proofs.Tryz.f96),(97,Go.Proofs.Tryz.f97),(98,Go.Proofs.Tryz.f98),(99,Go.Proofs.Tryz.f99),(100,Go.Proofs.Tryz.f100),(102,Go.Proofs.Tryz.f102),(107,Go.Proofs.Tryz.f107),(108,Go.Proofs.Tryz.f108),(109,Go.Proofs.Tryz.f109),(110,Go.Proofs.Tryz.f110),(111,Go.Proofs.Tryz.f111),(112,Go.Proofs.Tryz.f112),(113,Go.Proofs.Tryz.f113),(114,Go.Proofs.Tryz.f114),(115,Go.Proofs.Tryz.f115),(116,Go.Proofs.Tryz.f116),(117,Go.Proofs.Tryz.f117),(118,Go.Proofs.Tryz.f118),(119,Go.Proofs.Tryz.f119),(120,Go.Proofs.Tryz.f120),(121,Go.Proofs.Tryz.f121),(122,Go.Proofs.Tryz.f122),(123,Go.Proofs.Tryz.f123),(124,Go.Proofs.Tryz.f124),(128,Go.Proofs.Tryz.f128),(136,Go.Proofs.Tryz.f136),(137,Go.Proofs.Tryz.f137),(138,Go.Proofs.Tryz.f138),(139,Go.Proofs.Tryz.f139),(144,Go.Proofs.Tryz.f144),(146,Go.Proofs.Tryz.f146),(147,Go.Proofs.Tryz.f147),(148,Go.Proofs.Tryz.f148),(149,Go.Proofs.Tryz.f149),(150,Go.Proofs.Tryz.f150),(151,Go.Proofs.Tryz.f151),(152,Go.Proofs.Tryz.f152),(153,Go.Proofs.Tryz.f153),(154,Go.Proofs.Tryz.f154),(155,Go.Proofs.Tryz.f155),(157,Go.Proofs.Tryz.f157),(158,Go.Proofs.Tryz.f158),(159,Go.Proofs.Tryz.f159),(160,Go.Proofs.Tryz.f160),(162,Go.Proofs.Tryz.f162),(163,Go.Proofs.Tryz.f163),(164,Go.Proofs.Tryz.f164),(165,Go.Proofs.Tryz.f165),(166,Go.Proofs.Tryz.f166),(167,Go.Proofs.Tryz.f167),(168,Go.Proofs.Tryz.f168),(169,Go.Proofs.Tryz.f169),(170,Go.Proofs.Tryz.f170),(171,Go.Proofs.Tryz.f171),(172,Go.Proofs.Tryz.f172),(173,Go.Proofs.Tryz.f173),(174,Go.Proofs.Tryz.f174),(175,Go.Proofs.Tryz.f175),(176,Go.Proofs.Tryz.f176),(177,Go.Proofs.Tryz.f177),(178,Go.Proofs.Tryz.f178),(179,Go.Proofs.Tryz.f179),(180,Go.Proofs.Tryz.f180),(194,Go.Proofs.Tryz.f194),(195,Go.Proofs.Tryz.f195),(196,Go.Proofs.Tryz.f196),(197,Go.Proofs.Tryz.f197),(198,Go.Proofs.Tryz.f198),(199,Go.Proofs.Tryz.f199),(200,Go.Proofs.Tryz.f200),(204,Go.Proofs.Tryz.f204),(205,Go.Proofs.Tryz.f205),(206,Go.Proofs.Tryz.f206),(207,Go.Proofs.Tryz.f207),(208,Go.Proofs.Tryz.f208),(209,Go.Proofs.Tryz.f209),(210,Go.Proofs.Tryz.f210),(211,Go.Proofs.Tryz.f211),(212,Go.Proofs.Tryz.f212),(213,Go.Proofs.Tryz.f213),(214,Go.Proofs.Tryz.f214),(215,Go.Proofs.Tryz.f215),(216,Go.Proofs.Tryz.f216),(217,Go.Proofs.Tryz.f217),(218,Go.Proofs.Tryz.f218),(219,Go.Proofs.Tryz.f219),(220,Go.Proofs.Tryz.f220),(221,Go.Proofs.Tryz.f221),(222,Go.Proofs.Tryz.f222),(232,Go.Proofs.Tryz.f232),(233,Go.Proofs.Tryz.f233),(234,Go.Proofs.Tryz.f234),(235,Go.Proofs.Tryz.f235),(236,Go.Proofs.Tryz.f236),(239,Go.Proofs.Tryz.f239),(240,Go.Proofs.Tryz.f240),(241,Go.Proofs.Tryz.f241),(242,Go.Proofs.Tryz.f242),(243,Go.Proofs.Tryz.f243),(244,Go.Proofs.Tryz.f244),(245,Go.Proofs.Tryz.f245),(246,Go.Proofs.Tryz.f246),(251,Go.Proofs.Tryz.f251),(253,Go.Proofs.Tryz.f253),(254,Go.Proofs.Tryz.f254),(255,Go.Proofs.Tryz.f255),(256,Go.Proofs.Tryz.f256),(257,Go.Proofs.Tryz.f257),(263,Go.Proofs.Tryz.f263),(264,Go.Proofs.Tryz.f264),(265,Go.Proofs.Tryz.f265),(266,Go.Proofs.Tryz.f266),(267,Go.Proofs.Tryz.f267),(268,Go.Proofs.Tryz.f268),(269,Go.Proofs.Tryz.f269),(270,Go.Proofs.Tryz.f270),(271,Go.Proofs.Tryz.f271),(272,Go.Proofs.Tryz.f272),(273,Go.Proofs.Tryz.f273),(275,Go.Proofs.Tryz.f275),(276,Go.Proofs.Tryz.f276),(277,Go.Proofs.Tryz.f277),(278,Go.Proofs.Tryz.f278),(280,Go.Proofs.Tryz.f280),(281,Go.Proofs.Tryz.f281),(282,Go.Proofs.Tryz.f282),(283,Go.Proofs.Tryz.f283),(284,Go.Proofs.Tryz.f284),(306,Go.Proofs.Tryz.f306),(309,Go.Proofs.Tryz.f309),(326,Go.Proofs.Tryz.f326),(328,Go.Proofs.Tryz.f328),(332,Go.Proofs.Tryz.f332),(334,Go.Proofs.Tryz.f334),(336,Go.Proofs.Tryz.f336)]
theorem Tryz.ok3:fnB Tryz.cfg Tryz.digs 3 Go.Proofs.Tryz.f3=true:=by kernel_rfl
theorem Tryz.ok4:fnB Tryz.cfg Tryz.digs 4 Go.Proofs.Tryz.f4=true:=by kernel_rfl
theorem Tryz.ok5:fnB Tryz.cfg Tryz.digs 5 Go.Proofs.Tryz.f5=true:=by kernel_rfl
theorem Tryz.ok15:fnB Tryz.cfg Tryz.digs 15 Go.Proofs.Tryz.f15=true:=by kernel_rfl
theorem Tryz.ok16:fnB Tryz.cfg Tryz.digs 16 Go.Proofs.Tryz.f16=true:=by kernel_rfl
theorem Tryz.ok17:fnB Tryz.cfg Tryz.digs 17 Go.Proofs.Tryz.f17=true:=by kernel_rfl
theorem Tryz.ok18:fnB Tryz.cfg Tryz.digs 18 Go.Proofs.Tryz.f18=true:=by kernel_rfl
theorem Tryz.ok19:fnB Tryz.cfg Tryz.digs 19 Go.Proofs.Tryz.f19=true:=by kernel_rfl
theorem Tryz.ok20:fnB Tryz.cfg Tryz.digs 20 Go.Proofs.Tryz.f20=true:=by kernel_rfl
theorem Tryz.ok21:fnB Tryz.cfg Tryz.digs 21 Go.Proofs.Tryz.f21=true:=by kernel_rfl
theorem Tryz.ok22:fnB Tryz.cfg Tryz.digs 22 Go.Proofs.Tryz.f22=true:=by kernel_rfl
theorem Tryz.ok23:fnB Tryz.cfg Tryz.digs 23 Go.Proofs.Tryz.f23=true:=by kernel_rfl
theorem Tryz.ok24:fnB Tryz.cfg Tryz.digs 24 Go.Proofs.Tryz.f24=true:=by kernel_rfl
theorem Tryz.ok25:fnB Tryz.cfg Tryz.digs 25 Go.Proofs.Tryz.f25=true:=by kernel_rfl
theorem Tryz.ok26:fnB Tryz.cfg Tryz.digs 26 Go.Proofs.Tryz.f26=true:=by kernel_rfl
theorem Tryz.ok27:fnB Tryz.cfg Tryz.digs 27 Go.Proofs.Tryz.f27=true:=by kernel_rfl
theorem Tryz.ok28:fnB Tryz.cfg Tryz.digs 28 Go.Proofs.Tryz.f28=true:=by kernel_rfl
theorem Tryz.ok29:fnB Tryz.cfg Tryz.digs 29 Go.Proofs.Tryz.f29=true:=by kernel_rfl
theorem Tryz.ok30:fnB Tryz.cfg Tryz.digs 30 Go.Proofs.Tryz.f30=true:=by kernel_rfl
theorem Tryz.ok31:fnB Tryz.cfg Tryz.digs 31 Go.Proofs.Tryz.f31=true:=by kernel_rfl
theorem Tryz.ok32:fnB Tryz.cfg Tryz.digs 32 Go.Proofs.Tryz.f32=true:=by kernel_rfl
theorem Tryz.ok36:fnB Tryz.cfg Tryz.digs 36 Go.Proofs.Tryz.f36=true:=by kernel_rfl
theorem Tryz.ok37:fnB Tryz.cfg Tryz.digs 37 Go.Proofs.Tryz.f37=true:=by kernel_rfl
theorem Tryz.ok38:fnB Tryz.cfg Tryz.digs 38 Go.Proofs.Tryz.f38=true:=by kernel_rfl
theorem Tryz.ok39:fnB Tryz.cfg Tryz.digs 39 Go.Proofs.Tryz.f39=true:=by kernel_rfl
theorem Tryz.ok40:fnB Tryz.cfg Tryz.digs 40 Go.Proofs.Tryz.f40=true:=by kernel_rfl
theorem Tryz.ok41:fnB Tryz.cfg Tryz.digs 41 Go.Proofs.Tryz.f41=true:=by kernel_rfl
theorem Tryz.ok42:fnB Tryz.cfg Tryz.digs 42 Go.Proofs.Tryz.f42=true:=by kernel_rfl
theorem Tryz.ok44:fnB Tryz.cfg Tryz.digs 44 Go.Proofs.Tryz.f44=true:=by kernel_rfl
theorem Tryz.ok47:fnB Tryz.cfg Tryz.digs 47 Go.Proofs.Tryz.f47=true:=by kernel_rfl
theorem Tryz.ok48:fnB Tryz.cfg Tryz.digs 48 Go.Proofs.Tryz.f48=true:=by kernel_rfl
theorem Tryz.ok50:fnB Tryz.cfg Tryz.digs 50 Go.Proofs.Tryz.f50=true:=by kernel_rfl
theorem Tryz.ok57:fnB Tryz.cfg Tryz.digs 57 Go.Proofs.Tryz.f57=true:=by kernel_rfl
theorem Tryz.ok59:fnB Tryz.cfg Tryz.digs 59 Go.Proofs.Tryz.f59=true:=by kernel_rfl
theorem Tryz.ok60:fnB Tryz.cfg Tryz.digs 60 Go.Proofs.Tryz.f60=true:=by kernel_rfl
theorem Tryz.ok61:fnB Tryz.cfg Tryz.digs 61 Go.Proofs.Tryz.f61=true:=by kernel_rfl
theorem Tryz.ok62:fnB Tryz.cfg Tryz.digs 62 Go.Proofs.Tryz.f62=true:=by kernel_rfl
theorem Tryz.ok63:fnB Tryz.cfg Tryz.digs 63 Go.Proofs.Tryz.f63=true:=by kernel_rfl
theorem Tryz.ok64:fnB Tryz.cfg Tryz.digs 64 Go.Proofs.Tryz.f64=true:=by kernel_rfl
theorem Tryz.ok65:fnB Tryz.cfg Tryz.digs 65 Go.Proofs.Tryz.f65=true:=by kernel_rfl
theorem Tryz.ok66:fnB Tryz.cfg Tryz.digs 66 Go.Proofs.Tryz.f66=true:=by kernel_rfl
theorem Tryz.ok67:fnB Tryz.cfg Tryz.digs 67 Go.Proofs.Tryz.f67=true:=by kernel_rfl
theorem Tryz.ok68:fnB Tryz.cfg Tryz.digs 68 Go.Proofs.Tryz.f68=true:=by kernel_rfl
theorem Tryz.ok69:fnB Tryz.cfg Tryz.digs 69 Go.Proofs.Tryz.f69=true:=by kernel_rfl
theorem Tryz.ok70:fnB Tryz.cfg Tryz.digs 70 Go.Proofs.Tryz.f70=true:=by kernel_rfl
theorem Tryz.ok71:fnB Tryz.cfg Tryz.digs 71 Go.Proofs.Tryz.f71=true:=by kernel_rfl
theorem Tryz.ok72:fnB Tryz.cfg Tryz.digs 72 Go.Proofs.Tryz.f72=true:=by kernel_rfl
theorem Tryz.ok73:fnB Tryz.cfg Tryz.digs 73 Go.Proofs.Tryz.f73=true:=by kernel_rfl
theorem Tryz.ok74:fnB Tryz.cfg Tryz.digs 74 Go.Proofs.Tryz.f74=true:=by kernel_rfl
theorem Tryz.ok75:fnB Tryz.cfg Tryz.digs 75 Go.Proofs.Tryz.f75=true:=by kernel_rfl
theorem Tryz.ok76:fnB Tryz.cfg Tryz.digs 76 Go.Proofs.Tryz.f76=true:=by kernel_rfl
theorem Tryz.ok77:fnB Tryz.cfg Tryz.digs 77 Go.Proofs.Tryz.f77=true:=by kernel_rfl
theorem Tryz.ok78:fnB Tryz.cfg Tryz.digs 78 Go.Proofs.Tryz.f78=true:=by kernel_rfl
theorem Tryz.ok79:fnB Tryz.cfg Tryz.digs 79 Go.Proofs.Tryz.f79=true:=by kernel_rfl
theorem Tryz.ok80:fnB Tryz.cfg Tryz.digs 80 Go.Proofs.Tryz.f80=true:=by kernel_rfl
theorem Tryz.ok81:fnB Tryz.cfg Tryz.digs 81 Go.Proofs.Tryz.f81=true:=by kernel_rfl
theorem Tryz.ok89:fnB Tryz.cfg Tryz.digs 89 Go.Proofs.Tryz.f89=true:=by kernel_rfl
theorem Tryz.ok90:fnB Tryz.cfg Tryz.digs 90 Go.Proofs.Tryz.f90=true:=by kernel_rfl
theorem Tryz.ok95:fnB Tryz.cfg Tryz.digs 95 Go.Proofs.Tryz.f95=true:=by kernel_rfl
theorem Tryz.ok96:fnB Tryz.cfg Tryz.digs 96 Go.Proofs.Tryz.f96=true:=by kernel_rfl
theorem Tryz.ok97:fnB Tryz.cfg Tryz.digs 97 Go.Proofs.Tryz.f97=true:=by kernel_rfl
theorem Tryz.ok98:fnB Tryz.cfg Tryz.digs 98 Go.Proofs.Tryz.f98=true:=by kernel_rfl
theorem Tryz.ok99:fnB Tryz.cfg Tryz.digs 99 Go.Proofs.Tryz.f99=true:=by kernel_rfl
theorem Tryz.ok100:fnB Tryz.cfg Tryz.digs 100 Go.Proofs.Tryz.f100=true:=by kernel_rfl
theorem Tryz.ok102:fnB Tryz.cfg Tryz.digs 102 Go.Proofs.Tryz.f102=true:=by kernel_rfl
theorem Tryz.ok107:fnB Tryz.cfg Tryz.digs 107 Go.Proofs.Tryz.f107=true:=by kernel_rfl
theorem Tryz.ok108:fnB Tryz.cfg Tryz.digs 108 Go.Proofs.Tryz.f108=true:=by kernel_rfl
theorem Tryz.ok109:fnB Tryz.cfg Tryz.digs 109 Go.Proofs.Tryz.f109=true:=by kernel_rfl
theorem Tryz.ok110:fnB Tryz.cfg Tryz.digs 110 Go.Proofs.Tryz.f110=true:=by kernel_rfl
theorem Tryz.ok111:fnB Tryz.cfg Tryz.digs 111 Go.Proofs.Tryz.f111=true:=by kernel_rfl
theorem Tryz.ok112:fnB Tryz.cfg Tryz.digs 112 Go.Proofs.Tryz.f112=true:=by kernel_rfl
theorem Tryz.ok113:fnB Tryz.cfg Tryz.digs 113 Go.Proofs.Tryz.f113=true:=by kernel_rfl
theorem Tryz.ok114:fnB Tryz.cfg Tryz.digs 114 Go.Proofs.Tryz.f114=true:=by kernel_rfl
theorem Tryz.ok115:fnB Tryz.cfg Tryz.digs 115 Go.Proofs.Tryz.f115=true:=by kernel_rfl
theorem Tryz.ok116:fnB Tryz.cfg Tryz.digs 116 Go.Proofs.Tryz.f116=true:=by kernel_rfl
theorem Tryz.ok117:fnB Tryz.cfg Tryz.digs 117 Go.Proofs.Tryz.f117=true:=by kernel_rfl
theorem Tryz.ok118:fnB Tryz.cfg Tryz.digs 118 Go.Proofs.Tryz.f118=true:=by kernel_rfl
theorem Tryz.ok119:fnB Tryz.cfg Tryz.digs 119 Go.Proofs.Tryz.f119=true:=by kernel_rfl
theorem Tryz.ok120:fnB Tryz.cfg Tryz.digs 120 Go.Proofs.Tryz.f120=true:=by kernel_rfl
theorem Tryz.ok121:fnB Tryz.cfg Tryz.digs 121 Go.Proofs.Tryz.f121=true:=by kernel_rfl
theorem Tryz.ok122:fnB Tryz.cfg Tryz.digs 122 Go.Proofs.Tryz.f122=true:=by kernel_rfl
theorem Tryz.ok123:fnB Tryz.cfg Tryz.digs 123 Go.Proofs.Tryz.f123=true:=by kernel_rfl
theorem Tryz.ok124:fnB Tryz.cfg Tryz.digs 124 Go.Proofs.Tryz.f124=true:=by kernel_rfl
theorem Tryz.ok128:fnB Tryz.cfg Tryz.digs 128 Go.Proofs.Tryz.f128=true:=by kernel_rfl
theorem Tryz.ok136:fnB Tryz.cfg Tryz.digs 136 Go.Proofs.Tryz.f136=true:=by kernel_rfl
theorem Tryz.ok137:fnB Tryz.cfg Tryz.digs 137 Go.Proofs.Tryz.f137=true:=by kernel_rfl
theorem Tryz.ok138:fnB Tryz.cfg Tryz.digs 138 Go.Proofs.Tryz.f138=true:=by kernel_rfl
theorem Tryz.ok139:fnB Tryz.cfg Tryz.digs 139 Go.Proofs.Tryz.f139=true:=by kernel_rfl
theorem Tryz.ok144:fnB Tryz.cfg Tryz.digs 144 Go.Proofs.Tryz.f144=true:=by kernel_rfl
theorem Tryz.ok146:fnB Tryz.cfg Tryz.digs 146 Go.Proofs.Tryz.f146=true:=by kernel_rfl
theorem Tryz.ok147:fnB Tryz.cfg Tryz.digs 147 Go.Proofs.Tryz.f147=true:=by kernel_rfl
theorem Tryz.ok148:fnB Tryz.cfg Tryz.digs 148 Go.Proofs.Tryz.f148=true:=by kernel_rfl
theorem Tryz.ok149:fnB Tryz.cfg Tryz.digs 149 Go.Proofs.Tryz.f149=true:=by kernel_rfl
theorem Tryz.ok150:fnB Tryz.cfg Tryz.digs 150 Go.Proofs.Tryz.f150=true:=by kernel_rfl
theorem Tryz.ok151:fnB Tryz.cfg Tryz.digs 151 Go.Proofs.Tryz.f151=true:=by kernel_rfl
theorem Tryz.ok152:fnB Tryz.cfg Tryz.digs 152 Go.Proofs.Tryz.f152=true:=by kernel_rfl
theorem Tryz.ok153:fnB Tryz.cfg Tryz.digs 153 Go.Proofs.Tryz.f153=true:=by kernel_rfl
theorem Tryz.ok154:fnB Tryz.cfg Tryz.digs 154 Go.Proofs.Tryz.f154=true:=by kernel_rfl
theorem Tryz.ok155:fnB Tryz.cfg Tryz.digs 155 Go.Proofs.Tryz.f155=true:=by kernel_rfl
theorem Tryz.ok157:fnB Tryz.cfg Tryz.digs 157 Go.Proofs.Tryz.f157=true:=by kernel_rfl
theorem Tryz.ok158:fnB Tryz.cfg Tryz.digs 158 Go.Proofs.Tryz.f158=true:=by kernel_rfl
theorem Tryz.ok159:fnB Tryz.cfg Tryz.digs 159 Go.Proofs.Tryz.f159=true:=by kernel_rfl
theorem Tryz.ok160:fnB Tryz.cfg Tryz.digs 160 Go.Proofs.Tryz.f160=true:=by kernel_rfl
theorem Tryz.ok162:fnB Tryz.cfg Tryz.digs 162 Go.Proofs.Tryz.f162=true:=by kernel_rfl
theorem Tryz.ok163:fnB Tryz.cfg Tryz.digs 163 Go.Proofs.Tryz.f163=true:=by kernel_rfl
theorem Tryz.ok164:fnB Tryz.cfg Tryz.digs 164 Go.Proofs.Tryz.f164=true:=by kernel_rfl
theorem Tryz.ok165:fnB Tryz.cfg Tryz.digs 165 Go.Proofs.Tryz.f165=true:=by kernel_rfl
theorem Tryz.ok166:fnB Tryz.cfg Tryz.digs 166 Go.Proofs.Tryz.f166=true:=by kernel_rfl
theorem Tryz.ok167:fnB Tryz.cfg Tryz.digs 167 Go.Proofs.Tryz.f167=true:=by kernel_rfl
theorem Tryz.ok168:fnB Tryz.cfg Tryz.digs 168 Go.Proofs.Tryz.f168=true:=by kernel_rfl
theorem Tryz.ok169:fnB Tryz.cfg Tryz.digs 169 Go.Proofs.Tryz.f169=true:=by kernel_rfl
theorem Tryz.ok170:fnB Tryz.cfg Tryz.digs 170 Go.Proofs.Tryz.f170=true:=by kernel_rfl
theorem Tryz.ok171:fnB Tryz.cfg Tryz.digs 171 Go.Proofs.Tryz.f171=true:=by kernel_rfl
theorem Tryz.ok172:fnB Tryz.cfg Tryz.digs 172 Go.Proofs.Tryz.f172=true:=by kernel_rfl
theorem Tryz.ok173:fnB Tryz.cfg Tryz.digs 173 Go.Proofs.Tryz.f173=true:=by kernel_rfl
theorem Tryz.ok174:fnB Tryz.cfg Tryz.digs 174 Go.Proofs.Tryz.f174=true:=by kernel_rfl
theorem Tryz.ok175:fnB Tryz.cfg Tryz.digs 175 Go.Proofs.Tryz.f175=true:=by kernel_rfl
theorem Tryz.ok176:fnB Tryz.cfg Tryz.digs 176 Go.Proofs.Tryz.f176=true:=by kernel_rfl
theorem Tryz.ok177:fnB Tryz.cfg Tryz.digs 177 Go.Proofs.Tryz.f177=true:=by kernel_rfl
theorem Tryz.ok178:fnB Tryz.cfg Tryz.digs 178 Go.Proofs.Tryz.f178=true:=by kernel_rfl
theorem Tryz.ok179:fnB Tryz.cfg Tryz.digs 179 Go.Proofs.Tryz.f179=true:=by kernel_rfl
theorem Tryz.ok180:fnB Tryz.cfg Tryz.digs 180 Go.Proofs.Tryz.f180=true:=by kernel_rfl
theorem Tryz.ok194:fnB Tryz.cfg Tryz.digs 194 Go.Proofs.Tryz.f194=true:=by kernel_rfl
theorem Tryz.ok195:fnB Tryz.cfg Tryz.digs 195 Go.Proofs.Tryz.f195=true:=by kernel_rfl
theorem Tryz.ok196:fnB Tryz.cfg Tryz.digs 196 Go.Proofs.Tryz.f196=true:=by kernel_rfl
theorem Tryz.ok197:fnB Tryz.cfg Tryz.digs 197 Go.Proofs.Tryz.f197=true:=by kernel_rfl
theorem Tryz.ok198:fnB Tryz.cfg Tryz.digs 198 Go.Proofs.Tryz.f198=true:=by kernel_rfl
theorem Tryz.ok199:fnB Tryz.cfg Tryz.digs 199 Go.Proofs.Tryz.f199=true:=by kernel_rfl
theorem Tryz.ok200:fnB Tryz.cfg Tryz.digs 200 Go.Proofs.Tryz.f200=true:=by kernel_rfl
theorem Tryz.ok204:fnB Tryz.cfg Tryz.digs 204 Go.Proofs.Tryz.f204=true:=by kernel_rfl
theorem Tryz.ok205:fnB Tryz.cfg Tryz.digs 205 Go.Proofs.Tryz.f205=true:=by kernel_rfl
theorem Tryz.ok206:fnB Tryz.cfg Tryz.digs 206 Go.Proofs.Tryz.f206=true:=by kernel_rfl
theorem Tryz.ok207:fnB Tryz.cfg Tryz.digs 207 Go.Proofs.Tryz.f207=true:=by kernel_rfl
theorem Tryz.ok208:fnB Tryz.cfg Tryz.digs 208 Go.Proofs.Tryz.f208=true:=by kernel_rfl
theorem Tryz.ok209:fnB Tryz.cfg Tryz.digs 209 Go.Proofs.Tryz.f209=true:=by kernel_rfl
theorem Tryz.ok210:fnB Tryz.cfg Tryz.digs 210 Go.Proofs.Tryz.f210=true:=by kernel_rfl
theorem Tryz.ok211:fnB Tryz.cfg Tryz.digs 211 Go.Proofs.Tryz.f211=true:=by kernel_rfl
theorem Tryz.ok212:fnB Tryz.cfg Tryz.digs 212 Go.Proofs.Tryz.f212=true:=by kernel_rfl
theorem Tryz.ok213:fnB Tryz.cfg Tryz.digs 213 Go.Proofs.Tryz.f213=true:=by kernel_rfl
theorem Tryz.ok214:fnB Tryz.cfg Tryz.digs 214 Go.Proofs.Tryz.f214=true:=by kernel_rfl
theorem Tryz.ok215:fnB Tryz.cfg Tryz.digs 215 Go.Proofs.Tryz.f215=true:=by kernel_rfl
theorem Tryz.ok216:fnB Tryz.cfg Tryz.digs 216 Go.Proofs.Tryz.f216=true:=by kernel_rfl
theorem Tryz.ok217:fnB Tryz.cfg Tryz.digs 217 Go.Proofs.Tryz.f217=true:=by kernel_rfl
theorem Tryz.ok218:fnB Tryz.cfg Tryz.digs 218 Go.Proofs.Tryz.f218=true:=by kernel_rfl
theorem Tryz.ok219:fnB Tryz.cfg Tryz.digs 219 Go.Proofs.Tryz.f219=true:=by kernel_rfl
theorem Tryz.ok220:fnB Tryz.cfg Tryz.digs 220 Go.Proofs.Tryz.f220=true:=by kernel_rfl
theorem Tryz.ok221:fnB Tryz.cfg Tryz.digs 221 Go.Proofs.Tryz.f221=true:=by kernel_rfl
theorem Tryz.ok222:fnB Tryz.cfg Tryz.digs 222 Go.Proofs.Tryz.f222=true:=by kernel_rfl
theorem Tryz.ok232:fnB Tryz.cfg Tryz.digs 232 Go.Proofs.Tryz.f232=true:=by kernel_rfl
theorem Tryz.ok233:fnB Tryz.cfg Tryz.digs 233 Go.Proofs.Tryz.f233=true:=by kernel_rfl
theorem Tryz.ok234:fnB Tryz.cfg Tryz.digs 234 Go.Proofs.Tryz.f234=true:=by kernel_rfl
theorem Tryz.ok235:fnB Tryz.cfg Tryz.digs 235 Go.Proofs.Tryz.f235=true:=by kernel_rfl
theorem Tryz.ok236:fnB Tryz.cfg Tryz.digs 236 Go.Proofs.Tryz.f236=true:=by kernel_rfl
theorem Tryz.ok239:fnB Tryz.cfg Tryz.digs 239 Go.Proofs.Tryz.f239=true:=by kernel_rfl
theorem Tryz.ok240:fnB Tryz.cfg Tryz.digs 240 Go.Proofs.Tryz.f240=true:=by kernel_rfl
theorem Tryz.ok241:fnB Tryz.cfg Tryz.digs 241 Go.Proofs.Tryz.f241=true:=by kernel_rfl
theorem Tryz.ok242:fnB Tryz.cfg Tryz.digs 242 Go.Proofs.Tryz.f242=true:=by kernel_rfl
theorem Tryz.ok243:fnB Tryz.cfg Tryz.digs 243 Go.Proofs.Tryz.f243=true:=by kernel_rfl
theorem Tryz.ok244:fnB Tryz.cfg Tryz.digs 244 Go.Proofs.Tryz.f244=true:=by kernel_rfl
theorem Tryz.ok245:fnB Tryz.cfg Tryz.digs 245 Go.Proofs.Tryz.f245=true:=by kernel_rfl
theorem Tryz.ok246:fnB Tryz.cfg Tryz.digs 246 Go.Proofs.Tryz.f246=true:=by kernel_rfl
theorem Tryz.ok251:fnB Tryz.cfg Tryz.digs 251 Go.Proofs.Tryz.f251=true:=by kernel_rfl
theorem Tryz.ok253:fnB Tryz.cfg Tryz.digs 253 Go.Proofs.Tryz.f253=true:=by kernel_rfl
theorem Tryz.ok254:fnB Tryz.cfg Tryz.digs 254 Go.Proofs.Tryz.f254=true:=by kernel_rfl
theorem Tryz.ok255:fnB Tryz.cfg Tryz.digs 255 Go.Proofs.Tryz.f255=true:=by kernel_rfl
theorem Tryz.ok256:fnB Tryz.cfg Tryz.digs 256 Go.Proofs.Tryz.f256=true:=by kernel_rfl
theorem Tryz.ok257:fnB Tryz.cfg Tryz.digs 257 Go.Proofs.Tryz.f257=true:=by kernel_rfl
theorem Tryz.ok263:fnB Tryz.cfg Tryz.digs 263 Go.Proofs.Tryz.f263=true:=by kernel_rfl
theorem Tryz.ok264:fnB Tryz.cfg Tryz.digs 264 Go.Proofs.Tryz.f264=true:=by kernel_rfl
theorem Tryz.ok265:fnB Tryz.cfg Tryz.digs 265 Go.Proofs.Tryz.f265=true:=by kernel_rfl
theorem Tryz.ok266:fnB Tryz.cfg Tryz.digs 266 Go.Proofs.Tryz.f266=true:=by kernel_rfl
theorem Tryz.ok267:fnB Tryz.cfg Tryz.digs 267 Go.Proofs.Tryz.f267=true:=by kernel_rfl
theorem Tryz.ok268:fnB Tryz.cfg Tryz.digs 268 Go.Proofs.Tryz.f268=true:=by kernel_rfl
theorem Tryz.ok269:fnB Tryz.cfg Tryz.digs 269 Go.Proofs.Tryz.f269=true:=by kernel_rfl
theorem Tryz.ok270:fnB Tryz.cfg Tryz.digs 270 Go.Proofs.Tryz.f270=true:=by kernel_rfl
theorem Tryz.ok271:fnB Tryz.cfg Tryz.digs 271 Go.Proofs.Tryz.f271=true:=by kernel_rfl
theorem Tryz.ok272:fnB Tryz.cfg Tryz.digs 272 Go.Proofs.Tryz.f272=true:=by kernel_rfl
theorem Tryz.ok273:fnB Tryz.cfg Tryz.digs 273 Go.Proofs.Tryz.f273=true:=by kernel_rfl
theorem Tryz.ok275:fnB Tryz.cfg Tryz.digs 275 Go.Proofs.Tryz.f275=true:=by kernel_rfl
theorem Tryz.ok276:fnB Tryz.cfg Tryz.digs 276 Go.Proofs.Tryz.f276=true:=by kernel_rfl
theorem Tryz.ok277:fnB Tryz.cfg Tryz.digs 277 Go.Proofs.Tryz.f277=true:=by kernel_rfl
theorem Tryz.ok278:fnB Tryz.cfg Tryz.digs 278 Go.Proofs.Tryz.f278=true:=by kernel_rfl
theorem Tryz.ok280:fnB Tryz.cfg Tryz.digs 280 Go.Proofs.Tryz.f280=true:=by kernel_rfl
theorem Tryz.ok281:fnB Tryz.cfg Tryz.digs 281 Go.Proofs.Tryz.f281=true:=by kernel_rfl
theorem Tryz.ok282:fnB Tryz.cfg Tryz.digs 282 Go.Proofs.Tryz.f282=true:=by kernel_rfl
theorem Tryz.ok283:fnB Tryz.cfg Tryz.digs 283 Go.Proofs.Tryz.f283=true:=by kernel_rfl
theorem Tryz.ok284:fnB Tryz.cfg Tryz.digs 284 Go.Proofs.Tryz.f284=true:=by kernel_rfl
theorem Tryz.ok306:fnB Tryz.cfg Tryz.digs 306 Go.Proofs.Tryz.f306=true:=by kernel_rfl
theorem Tryz.ok309:fnB Tryz.cfg Tryz.digs 309 Go.Proofs.Tryz.f309=true:=by kernel_rfl
theorem Tryz.ok326:fnB Tryz.cfg Tryz.digs 326 Go.Proofs.Tryz.f326=true:=by kernel_rfl
theorem Tryz.ok328:fnB Tryz.cfg Tryz.digs 328 Go.Proofs.Tryz.f328=true:=by kernel_rfl
theorem Tryz.ok332:fnB Tryz.cfg Tryz.digs 332 Go.Proofs.Tryz.f332=true:=by kernel_rfl
theorem Tryz.ok334:fnB Tryz.cfg Tryz.digs 334 Go.Proofs.Tryz.f334=true:=by kernel_rfl
theorem Tryz.ok336:fnB Tryz.cfg Tryz.digs 336 Go.Proofs.Tryz.f336=true:=by kernel_rfl
theorem Tryz.fnsOk:FnsOk Go.Proofs.Tryz.prog Tryz.cfg Tryz.digs Tryz.fns:=⟨Go.Proofs.Tryz.func3,Tryz.ok3,Go.Proofs.Tryz.func4,Tryz.ok4,Go.Proofs.Tryz.func5,Tryz.ok5,Go.Proofs.Tryz.func15,Tryz.ok15,Go.Proofs.Tryz.func16,Tryz.ok16,Go.Proofs.Tryz.func17,Tryz.ok17,Go.Proofs.Tryz.func18,Tryz.ok18,Go.Proofs.Tryz.func19,Tryz.ok19,Go.Proofs.Tryz.func20,Tryz.ok20,Go.Proofs.Tryz.func21,Tryz.ok21,Go.Proofs.Tryz.func22,Tryz.ok22,Go.Proofs.Tryz.func23,Tryz.ok23,Go.Proofs.Tryz.func24,Tryz.ok24,Go.Proofs.Tryz.func25,Tryz.ok25,Go.Proofs.Tryz.func26,Tryz.ok26,Go.Proofs.Tryz.func27,Tryz.ok27,Go.Proofs.Tryz.func28,Tryz.ok28,Go.Proofs.Tryz.func29,Tryz.ok29,Go.Proofs.Tryz.func30,Tryz.ok30,Go.Proofs.Tryz.func31,Tryz.ok31,Go.Proofs.Tryz.func32,Tryz.ok32,Go.Proofs.Tryz.func36,Tryz.ok36,Go.Proofs.Tryz.func37,Tryz.ok37,Go.Proofs.Tryz.func38,Tryz.ok38,Go.Proofs.Tryz.func39,Tryz.ok39,Go.Proofs.Tryz.func40,Tryz.ok40,Go.Proofs.Tryz.func41,Tryz.ok41,Go.Proofs.Tryz.func42,Tryz.ok42,Go.Proofs.Tryz.func44,Tryz.ok44,Go.Proofs.Tryz.func47,Tryz.ok47,Go.Proofs.Tryz.func48,Tryz.ok48,Go.Proofs.Tryz.func50,Tryz.ok50,Go.Proofs.Tryz.func57,Tryz.ok57,Go.Proofs.Tryz.func59,Tryz.ok59,Go.Proofs.Tryz.func60,Tryz.ok60,Go.Proofs.Tryz.func61,Tryz.ok61,Go.Proofs.Tryz.func62,Tryz.ok62,Go.Proofs.Tryz.func63,Tryz.ok63,Go.Proofs.Tryz.func64,Tryz.ok64,Go.Proofs.Tryz.func65,Tryz.ok65,Go.Proofs.Tryz.func66,Tryz.ok66,Go.Proofs.Tryz.func67,Tryz.ok67,Go.Proofs.Tryz.func68,Tryz.ok68,Go.Proofs.Tryz.func69,Tryz.ok69,Go.Proofs.Tryz.func70,Tryz.ok70,Go.Proofs.Tryz.func71,Tryz.ok71,Go.Proofs.Tryz.func72,Tryz.ok72,Go.Proofs.Tryz.func73,Tryz.ok73,Go.Proofs.Tryz.func74,Tryz.ok74,Go.Proofs.Tryz.func75,Tryz.ok75,Go.Proofs.Tryz.func76,Tryz.ok76,Go.Proofs.Tryz.func77,Tryz.ok77,Go.Proofs.Tryz.func78,Tryz.ok78,Go.Proofs.Tryz.func79,Tryz.ok79,Go.Proofs.Tryz.func80,Tryz.ok80,Go.Proofs.Tryz.func81,Tryz.ok81,Go.Proofs.Tryz.func89,Tryz.ok89,Go.Proofs.Tryz.func90,Tryz.ok90,Go.Proofs.Tryz.func95,Tryz.ok95,Go.Proofs.Tryz.func96,Tryz.ok96,Go.Proofs.Tryz.func97,Tryz.ok97,Go.Proofs.Tryz.func98,Tryz.ok98,Go.Proofs.Tryz.func99,Tryz.ok99,Go.Proofs.Tryz.func100,Tryz.ok100,Go.Proofs.Tryz.func102,Tryz.ok102,Go.Proofs.Tryz.func107,Tryz.ok107,Go.Proofs.Tryz.func108,Tryz.ok108,Go.Proofs.Tryz.func109,Tryz.ok109,Go.Proofs.Tryz.func110,Tryz.ok110,Go.Proofs.Tryz.func111,Tryz.ok111,Go.Proofs.Tryz.func112,Tryz.ok112,Go.Proofs.Tryz.func113,Tryz.ok113,Go.Proofs.Tryz.func114,Tryz.ok114,Go.Proofs.Tryz.func115,Tryz.ok115,Go.Proofs.Tryz.func116,Tryz.ok116,Go.Proofs.Tryz.func117,Tryz.ok117,Go.Proofs.Tryz.func118,Tryz.ok118,Go.Proofs.Tryz.func119,Tryz.ok119,Go.Proofs.Tryz.func120,Tryz.ok120,Go.Proofs.Tryz.func121,Tryz.ok121,Go.Proofs.Tryz.func122,Tryz.ok122,Go.Proofs.Tryz.func123,Tryz.ok123,Go.Proofs.Tryz.func124,Tryz.ok124,Go.Proofs.Tryz.func128,Tryz.ok128,Go.Proofs.Tryz.func136,Tryz.ok136,Go.Proofs.Tryz.func137,Tryz.ok137,Go.Proofs.Tryz.func138,Tryz.ok138,Go.Proofs.Tryz.func139,Tryz.ok139,Go.Proofs.Tryz.func144,Tryz.ok144,Go.Proofs.Tryz.func146,Tryz.ok146,Go.Proofs.Tryz.func147,Tryz.ok147,Go.Proofs.Tryz.func148,Tryz.ok148,Go.Proofs.Tryz.func149,Tryz.ok149,Go.Proofs.Tryz.func150,Tryz.ok150,Go.Proofs.Tryz.func151,Tryz.ok151,Go.Proofs.Tryz.func152,Tryz.ok152,Go.Proofs.Tryz.func153,Tryz.ok153,Go.Proofs.Tryz.func154,Tryz.ok154,Go.Proofs.Tryz.func155,Tryz.ok155,Go.Proofs.Tryz.func157,Tryz.ok157,Go.Proofs.Tryz.func158,Tryz.ok158,Go.Proofs.Tryz.func159,Tryz.ok159,Go.Proofs.Tryz.func160,Tryz.ok160,Go.Proofs.Tryz.func162,Tryz.ok162,Go.Proofs.Tryz.func163,Tryz.ok163,Go.Proofs.Tryz.func164,Tryz.ok164,Go.Proofs.Tryz.func165,Tryz.ok165,Go.Proofs.Tryz.func166,Tryz.ok166,Go.Proofs.Tryz.func167,Tryz.ok167,Go.Proofs.Tryz.func168,Tryz.ok168,Go.Proofs.Tryz.func169,Tryz.ok169,Go.Proofs.Tryz.func170,Tryz.ok170,Go.Proofs.Tryz.func171,Tryz.ok171,Go.Proofs.Tryz.func172,Tryz.ok172,Go.Proofs.Tryz.func173,Tryz.ok173,Go.Proofs.Tryz.func174,Tryz.ok174,Go.Proofs.Tryz.func175,Tryz.ok175,Go.Proofs.Tryz.func176,Tryz.ok176,Go.Proofs.Tryz.func177,Tryz.ok177,Go.Proofs.Tryz.func178,Tryz.ok178,Go.Proofs.Tryz.func179,Tryz.ok179,Go.Proofs.Tryz.func180,Tryz.ok180,Go.Proofs.Tryz.func194,Tryz.ok194,Go.Proofs.Tryz.func195,Tryz.ok195,Go.Proofs.Tryz.func196,Tryz.ok196,Go.Proofs.Tryz.func197,Tryz.ok197,Go.Proofs.Tryz.func198,Tryz.ok198,Go.Proofs.Tryz.func199,Tryz.ok199,Go.Proofs.Tryz.func200,Tryz.ok200,Go.Proofs.Tryz.func204,Tryz.ok204,Go.Proofs.Tryz.func205,Tryz.ok205,Go.Proofs.Tryz.func206,Tryz.ok206,Go.Proofs.Tryz.func207,Tryz.ok207,Go.Proofs.Tryz.func208,Tryz.ok208,Go.Proofs.Tryz.func209,Tryz.ok209,Go.Proofs.Tryz.func210,Tryz.ok210,Go.Proofs.Tryz.func211,Tryz.ok211,Go.Proofs.Tryz.func212,Tryz.ok212,Go.Proofs.Tryz.func213,Tryz.ok213,Go.Proofs.Tryz.func214,Tryz.ok214,Go.Proofs.Tryz.func215,Tryz.ok215,Go.Proofs.Tryz.func216,Tryz.ok216,Go.Proofs.Tryz.func217,Tryz.ok217,Go.Proofs.Tryz.func218,Tryz.ok218,Go.Proofs.Tryz.func219,Tryz.ok219,Go.Proofs.Tryz.func220,Tryz.ok220,Go.Proofs.Tryz.func221,Tryz.ok221,Go.Proofs.Tryz.func222,Tryz.ok222,Go.Proofs.Tryz.func232,Tryz.ok232,Go.Proofs.Tryz.func233,Tryz.ok233,Go.Proofs.Tryz.func234,Tryz.ok234,Go.Proofs.Tryz.func235,Tryz.ok235,Go.Proofs.Tryz.func236,Tryz.ok236,Go.Proofs.Tryz.func239,Tryz.ok239,Go.Proofs.Tryz.func240,Tryz.ok240,Go.Proofs.Tryz.func241,Tryz.ok241,Go.Proofs.Tryz.func242,Tryz.ok242,Go.Proofs.Tryz.func243,Tryz.ok243,Go.Proofs.Tryz.func244,Tryz.ok244,Go.Proofs.Tryz.func245,Tryz.ok245,Go.Proofs.Tryz.func246,Tryz.ok246,Go.Proofs.Tryz.func251,Tryz.ok251,Go.Proofs.Tryz.func253,Tryz.ok253,Go.Proofs.Tryz.func254,Tryz.ok254,Go.Proofs.Tryz.func255,Tryz.ok255,Go.Proofs.Tryz.func256,Tryz.ok256,Go.Proofs.Tryz.func257,Tryz.ok257,Go.Proofs.Tryz.func263,Tryz.ok263,Go.Proofs.Tryz.func264,Tryz.ok264,Go.Proofs.Tryz.func265,Tryz.ok265,Go.Proofs.Tryz.func266,Tryz.ok266,Go.Proofs.Tryz.func267,Tryz.ok267,Go.Proofs.Tryz.func268,Tryz.ok268,Go.Proofs.Tryz.func269,Tryz.ok269,Go.Proofs.Tryz.func270,Tryz.ok270,Go.Proofs.Tryz.func271,Tryz.ok271,Go.Proofs.Tryz.func272,Tryz.ok272,Go.Proofs.Tryz.func273,Tryz.ok273,Go.Proofs.Tryz.func275,Tryz.ok275,Go.Proofs.Tryz.func276,Tryz.ok276,Go.Proofs.Tryz.func277,Tryz.ok277,Go.Proofs.Tryz.func278,Tryz.ok278,Go.Proofs.Tryz.func280,Tryz.ok280,Go.Proofs.Tryz.func281,Tryz.ok281,Go.Proofs.Tryz.func282,Tryz.ok282,Go.Proofs.Tryz.func283,Tryz.ok283,Go.Proofs.Tryz.func284,Tryz.ok284,Go.Proofs.Tryz.func306,Tryz.ok306,Go.Proofs.Tryz.func309,Tryz.ok309,Go.Proofs.Tryz.func326,Tryz.ok326,Go.Proofs.Tryz.func328,Tryz.ok328,Go.Proofs.Tryz.func332,Tryz.ok332,Go.Proofs.Tryz.func334,Tryz.ok334,Go.Proofs.Tryz.func336,Tryz.ok336,trivial⟩
end Go.Ab
