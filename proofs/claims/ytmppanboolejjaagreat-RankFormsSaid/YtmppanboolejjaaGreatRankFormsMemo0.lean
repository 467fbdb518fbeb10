/- The calls of RankForms, one by one: each comes to what is written here (looked at by the kernel). Printed by mkmemo.py. -/
import Derived.Test.YtmppanboolejjaaGreatHand
set_option maxRecDepth 1000000
namespace Go.Ab.rankForms
open Go Go.Ab
def v10 : AV := .agg [.int .i64 1, .int .i64 1, .str [42], .tree [], .tree [.int .i64 0, .int .i64 0]]
def v12 : AV := .agg [.int .i64 2, .int .i64 0, .str [], .tree [], .tree []]
def v13 : AV := .tree [v10, v12]
def v14 : AV := .agg [.int .i64 1, .int .i64 2, .int .i64 0, .int .i64 0, .int .i64 6, .tree [], v13]
def v15 : AV := .agg [.int .i64 1, .int .i64 0, .str [], .tree [], .tree []]
def v16 : AV := .agg [.int .i64 2, .int .i64 1, .str [42], .tree [], .tree [.int .i64 0, .int .i64 0]]
def v17 : AV := .tree [v15, v16]
def v18 : AV := .agg [.int .i64 2, .int .i64 2, .int .i64 0, .int .i64 0, .int .i64 6, .tree [], v17]
def v19 : AV := .tree [v14, v18]
def v20 : AV := .agg [.int .i64 2, .int .i64 4, .tree [.agg [.int .i64 1, .int .i64 2]], v19, .tree [], .tree []]
def e0 : Ent := ⟨22, [.int .i64 2, .tree [.agg [.int .i64 1, .int .i64 2]], .int .i64 4, .int .i64 6], [], ⟨.tuple [v20, .bool true], [], []⟩⟩
theorem e0_ok : e0.Ok Go.Proofs.Tryz.prog := evIs_ok Tryz.envOk (l := []) trivial (by kernel_rfl)
def v23 : AV := .agg [.int .i64 1, .int .i64 0, .int .i64 0, .int .i64 0, .str [], .tree []]
def e1 : Ent := ⟨106, [.str [42]], [], ⟨.tuple [v23, .int .i64 0, .bool true], [], []⟩⟩
theorem e1_ok : e1.Ok Go.Proofs.Tryz.prog := evIs_ok Tryz.envOk (l := []) trivial (by kernel_rfl)
def e2 : Ent := ⟨93, [v14], [], ⟨v23, [], []⟩⟩
theorem e2_ok : e2.Ok Go.Proofs.Tryz.prog := evIs_ok Tryz.envOk (l := [e1]) ⟨e1_ok, trivial⟩ (by kernel_rfl)
def v28 : AV := .agg [.int .i64 2, .int .i64 1, .int .i64 1, .int .i64 1, .bool false, .tree [], .str [97], .str [98]]
def v29 : AV := .tree [v28]
def v30 : AV := .agg [.int .i64 2, .int .i64 1, .int .i64 1, .int .i64 1]
def v31 : AV := .tree [v30]
def v32 : AV := .agg [.int .i64 1, .int .i64 2, .str [42], v31, .tree [.int .i64 0, .int .i64 0]]
def v33 : AV := .tree [v32, v12]
def v34 : AV := .agg [.int .i64 1, .int .i64 2, .int .i64 1, .int .i64 1, .int .i64 6, v29, v33]
def e3 : Ent := ⟨58, [v14, .int .i64 2, .tree [], .str [97], .str [98]], [], ⟨.tuple [v34, v28, .int .i64 0], [], []⟩⟩
theorem e3_ok : e3.Ok Go.Proofs.Tryz.prog := evIs_ok Tryz.envOk (l := [e2]) ⟨e2_ok, trivial⟩ (by kernel_rfl)
def v36 : AV := .agg [.int .i64 1, .int .i64 1, .int .i64 0, .int .i64 0, .int .i64 2, .tree [], .str [97], .str [98]]
def v37 : AV := .tree [v34, v18]
def v38 : AV := .agg [.int .i64 2, .int .i64 4, .tree [.agg [.int .i64 1, .int .i64 2]], v37, .tree [], v29]
def v39 : AV := .tuple [v38, .int .i64 0]
def e4 : Ent := ⟨47, [v20, v36], [], ⟨v39, [], []⟩⟩
theorem e4_ok : e4.Ok Go.Proofs.Tryz.prog := evIs_ok Tryz.envOk (l := [e3]) ⟨e3_ok, trivial⟩ (by kernel_rfl)
def e5 : Ent := ⟨23, [v20, v36], [], ⟨v39, [], []⟩⟩
theorem e5_ok : e5.Ok Go.Proofs.Tryz.prog := evIs_ok Tryz.envOk (l := [e4]) ⟨e4_ok, trivial⟩ (by kernel_rfl)
def v45 : AV := .tree [.agg [.int .i64 3, .str [94], .int .i64 0, .int .i64 0], .agg [.int .i64 1, .str [97], .int .i64 0, .int .i64 1]]
def v46 : AV := .agg [v45, .int .i64 0, .int .i64 2, .bool false, .int .i64 0]
def v47 : AV := .agg [.int .i64 4, .int .i64 0, .int .i64 0, .int .i64 0, .str [97], .tree []]
def v48 : AV := .agg [v45, .int .i64 2, .int .i64 2, .bool false, .int .i64 0]
def e6 : Ent := ⟨138, [.ref (.inc 0) 0 0], [.box (v46) true], ⟨v47, [.box (v48) true], []⟩⟩
theorem e6_ok : e6.Ok Go.Proofs.Tryz.prog := evIs_ok Tryz.envOk (l := []) trivial (by kernel_rfl)
def e7 : Ent := ⟨131, [.ref (.inc 0) 0 0], [.box (v46) true], ⟨v47, [.box (v48) true], []⟩⟩
theorem e7_ok : e7.Ok Go.Proofs.Tryz.prog := evIs_ok Tryz.envOk (l := [e6]) ⟨e6_ok, trivial⟩ (by kernel_rfl)
def e8 : Ent := ⟨106, [.str [94, 97]], [], ⟨.tuple [v47, .int .i64 0, .bool true], [], []⟩⟩
theorem e8_ok : e8.Ok Go.Proofs.Tryz.prog := evIs_ok Tryz.envOk (l := [e7]) ⟨e7_ok, trivial⟩ (by kernel_rfl)
def v52 : AV := .agg [.int .i64 1, .int .i64 3, .str [94, 97], v31, .tree [.int .i64 1, .int .i64 0]]
def v53 : AV := .tree [v52, v12]
def v54 : AV := .agg [.int .i64 1, .int .i64 2, .int .i64 1, .int .i64 1, .int .i64 6, v29, v53]
def e9 : Ent := ⟨79, [v34, .str [94, 97]], [], ⟨.tuple [v54, .int .i64 0], [], []⟩⟩
theorem e9_ok : e9.Ok Go.Proofs.Tryz.prog := evIs_ok Tryz.envOk (l := [e8]) ⟨e8_ok, trivial⟩ (by kernel_rfl)
def v56 : AV := .agg [.int .i64 3, .int .i64 1, .int .i64 0, .int .i64 0, .int .i64 0, .tree [], .str [], .str [94, 97]]
def v57 : AV := .tree [v54, v18]
def v58 : AV := .agg [.int .i64 2, .int .i64 4, .tree [.agg [.int .i64 1, .int .i64 2]], v57, .tree [], v29]
def v59 : AV := .tuple [v58, .int .i64 0]
def e10 : Ent := ⟨47, [v38, v56], [], ⟨v59, [], []⟩⟩
theorem e10_ok : e10.Ok Go.Proofs.Tryz.prog := evIs_ok Tryz.envOk (l := [e9]) ⟨e9_ok, trivial⟩ (by kernel_rfl)
def e11 : Ent := ⟨23, [v38, v56], [], ⟨v59, [], []⟩⟩
theorem e11_ok : e11.Ok Go.Proofs.Tryz.prog := evIs_ok Tryz.envOk (l := [e10]) ⟨e10_ok, trivial⟩ (by kernel_rfl)
def e12 : Ent := ⟨15, [v20], [], ⟨.int .i64 0, [], []⟩⟩
theorem e12_ok : e12.Ok Go.Proofs.Tryz.prog := evIs_ok Tryz.envOk (l := []) trivial (by kernel_rfl)
def e13 : Ent := ⟨19, [v20], [], ⟨.int .i64 0, [], []⟩⟩
theorem e13_ok : e13.Ok Go.Proofs.Tryz.prog := evIs_ok Tryz.envOk (l := [e12]) ⟨e12_ok, trivial⟩ (by kernel_rfl)
def e14 : Ent := ⟨17, [v38], [], ⟨.int .i64 1, [], []⟩⟩
theorem e14_ok : e14.Ok Go.Proofs.Tryz.prog := evIs_ok Tryz.envOk (l := []) trivial (by kernel_rfl)
def e15 : Ent := ⟨15, [v58], [], ⟨.int .i64 1, [], []⟩⟩
theorem e15_ok : e15.Ok Go.Proofs.Tryz.prog := evIs_ok Tryz.envOk (l := []) trivial (by kernel_rfl)
def e16 : Ent := ⟨9, [], [], ⟨.bool true, [], []⟩⟩
theorem e16_ok : e16.Ok Go.Proofs.Tryz.prog := evIs_ok Tryz.envOk (l := [e0, e5, e11, e13, e14, e15]) ⟨e0_ok, e5_ok, e11_ok, e13_ok, e14_ok, e15_ok, trivial⟩ (by kernel_rfl)
def v61 : AV := .tree [.agg [.int .i64 1, .int .i64 2], .agg [.int .i64 2, .int .i64 3]]
def e17 : Ent := ⟨45, [.int .i64 3, v61], [], ⟨.bool true, [], []⟩⟩
theorem e17_ok : e17.Ok Go.Proofs.Tryz.prog := evIs_ok Tryz.envOk (l := []) trivial (by kernel_rfl)
def v63 : AV := .agg [.int .i64 1, .int .i64 1, .str [42], .tree [], .tree [.int .i64 0, .int .i64 0, .int .i64 0]]
def v64 : AV := .agg [.int .i64 3, .int .i64 0, .str [], .tree [], .tree []]
def v65 : AV := .tree [v63, v12, v64]
def v66 : AV := .agg [.int .i64 1, .int .i64 3, .int .i64 0, .int .i64 0, .int .i64 6, .tree [], v65]
def v67 : AV := .agg [.int .i64 2, .int .i64 1, .str [42], .tree [], .tree [.int .i64 0, .int .i64 0, .int .i64 0]]
def v68 : AV := .tree [v15, v67, v64]
def v69 : AV := .agg [.int .i64 2, .int .i64 3, .int .i64 0, .int .i64 0, .int .i64 6, .tree [], v68]
def v70 : AV := .agg [.int .i64 3, .int .i64 1, .str [42], .tree [], .tree [.int .i64 0, .int .i64 0, .int .i64 0]]
def v71 : AV := .tree [v15, v12, v70]
def v72 : AV := .agg [.int .i64 3, .int .i64 3, .int .i64 0, .int .i64 0, .int .i64 6, .tree [], v71]
def v73 : AV := .tree [v66, v69, v72]
def v74 : AV := .agg [.int .i64 3, .int .i64 4, v61, v73, .tree [], .tree []]
def e18 : Ent := ⟨22, [.int .i64 3, v61, .int .i64 4, .int .i64 6], [], ⟨.tuple [v74, .bool true], [], []⟩⟩
theorem e18_ok : e18.Ok Go.Proofs.Tryz.prog := evIs_ok Tryz.envOk (l := [e17]) ⟨e17_ok, trivial⟩ (by kernel_rfl)
def v76 : AV := .agg [.int .i64 1, .int .i64 1, .int .i64 1, .int .i64 1, .bool false, .tree [], .str [], .str []]
def v77 : AV := .tree [v76]
def v78 : AV := .agg [.int .i64 1, .int .i64 1, .int .i64 1, .int .i64 1]
def v79 : AV := .tree [v78]
def v80 : AV := .agg [.int .i64 1, .int .i64 2, .str [42], v79, .tree [.int .i64 0, .int .i64 0, .int .i64 0]]
def v81 : AV := .tree [v80, v12, v64]
def v82 : AV := .agg [.int .i64 1, .int .i64 3, .int .i64 1, .int .i64 1, .int .i64 6, v77, v81]
def e19 : Ent := ⟨58, [v66, .int .i64 1, .tree [], .str [], .str []], [], ⟨.tuple [v82, v76, .int .i64 0], [], []⟩⟩
theorem e19_ok : e19.Ok Go.Proofs.Tryz.prog := evIs_ok Tryz.envOk (l := []) trivial (by kernel_rfl)
def v84 : AV := .agg [.int .i64 1, .int .i64 1, .int .i64 0, .int .i64 0, .int .i64 1, .tree [], .str [], .str []]
def v85 : AV := .tree [v82, v69, v72]
def v86 : AV := .agg [.int .i64 3, .int .i64 4, v61, v85, .tree [], v77]
def v87 : AV := .tuple [v86, .int .i64 0]
def e20 : Ent := ⟨47, [v74, v84], [], ⟨v87, [], []⟩⟩
theorem e20_ok : e20.Ok Go.Proofs.Tryz.prog := evIs_ok Tryz.envOk (l := [e19]) ⟨e19_ok, trivial⟩ (by kernel_rfl)
def e21 : Ent := ⟨23, [v74, v84], [], ⟨v87, [], []⟩⟩
theorem e21_ok : e21.Ok Go.Proofs.Tryz.prog := evIs_ok Tryz.envOk (l := [e20]) ⟨e20_ok, trivial⟩ (by kernel_rfl)
def e22 : Ent := ⟨40, [v82], [], ⟨v80, [], []⟩⟩
theorem e22_ok : e22.Ok Go.Proofs.Tryz.prog := evIs_ok Tryz.envOk (l := []) trivial (by kernel_rfl)
def e23 : Ent := ⟨15, [v86], [], ⟨.int .i64 0, [], []⟩⟩
theorem e23_ok : e23.Ok Go.Proofs.Tryz.prog := evIs_ok Tryz.envOk (l := [e22]) ⟨e22_ok, trivial⟩ (by kernel_rfl)
def e24 : Ent := ⟨17, [v86], [], ⟨.int .i64 2, [], []⟩⟩
theorem e24_ok : e24.Ok Go.Proofs.Tryz.prog := evIs_ok Tryz.envOk (l := []) trivial (by kernel_rfl)
def e25 : Ent := ⟨19, [v86], [], ⟨.int .i64 2, [], []⟩⟩
theorem e25_ok : e25.Ok Go.Proofs.Tryz.prog := evIs_ok Tryz.envOk (l := [e23, e24]) ⟨e23_ok, e24_ok, trivial⟩ (by kernel_rfl)
def v89 : AV := .agg [.int .i64 3, .int .i64 2, .str [94, 97], .tree [], .tree [.int .i64 0, .int .i64 0, .int .i64 1]]
def v90 : AV := .tree [v15, v12, v89]
def v91 : AV := .agg [.int .i64 3, .int .i64 3, .int .i64 0, .int .i64 0, .int .i64 6, .tree [], v90]
def v92 : AV := .tree [v82, v69, v91]
def v93 : AV := .agg [.int .i64 3, .int .i64 4, v61, v92, .tree [], v77]
def e26 : Ent := ⟨15, [v93], [], ⟨.int .i64 2, [], []⟩⟩
theorem e26_ok : e26.Ok Go.Proofs.Tryz.prog := evIs_ok Tryz.envOk (l := []) trivial (by kernel_rfl)
def e27 : Ent := ⟨19, [v93], [], ⟨.int .i64 64, [], []⟩⟩
theorem e27_ok : e27.Ok Go.Proofs.Tryz.prog := evIs_ok Tryz.envOk (l := [e26]) ⟨e26_ok, trivial⟩ (by kernel_rfl)
def v96 : AV := .tree [.agg [.int .i64 3, .str [94], .int .i64 0, .int .i64 0], .agg [.int .i64 1, .str [98], .int .i64 0, .int .i64 1]]
def v97 : AV := .agg [v96, .int .i64 0, .int .i64 2, .bool false, .int .i64 0]
def v98 : AV := .agg [.int .i64 4, .int .i64 0, .int .i64 0, .int .i64 0, .str [98], .tree []]
def v99 : AV := .agg [v96, .int .i64 2, .int .i64 2, .bool false, .int .i64 0]
def e28 : Ent := ⟨144, [.ref (.inc 0) 0 0], [.box (v97) true], ⟨v98, [.box (v99) true], []⟩⟩
theorem e28_ok : e28.Ok Go.Proofs.Tryz.prog := evIs_ok Tryz.envOk (l := []) trivial (by kernel_rfl)
def e29 : Ent := ⟨138, [.ref (.inc 0) 0 0], [.box (v97) true], ⟨v98, [.box (v99) true], []⟩⟩
theorem e29_ok : e29.Ok Go.Proofs.Tryz.prog := evIs_ok Tryz.envOk (l := [e28]) ⟨e28_ok, trivial⟩ (by kernel_rfl)
def e30 : Ent := ⟨131, [.ref (.inc 0) 0 0], [.box (v97) true], ⟨v98, [.box (v99) true], []⟩⟩
theorem e30_ok : e30.Ok Go.Proofs.Tryz.prog := evIs_ok Tryz.envOk (l := [e29]) ⟨e29_ok, trivial⟩ (by kernel_rfl)
def e31 : Ent := ⟨106, [.str [94, 98]], [], ⟨.tuple [v98, .int .i64 0, .bool true], [], []⟩⟩
theorem e31_ok : e31.Ok Go.Proofs.Tryz.prog := evIs_ok Tryz.envOk (l := [e30]) ⟨e30_ok, trivial⟩ (by kernel_rfl)
def v103 : AV := .agg [.int .i64 3, .int .i64 3, .str [94, 98], .tree [], .tree [.int .i64 0, .int .i64 0, .int .i64 2]]
def v104 : AV := .tree [v15, v12, v103]
def v105 : AV := .agg [.int .i64 3, .int .i64 3, .int .i64 0, .int .i64 0, .int .i64 6, .tree [], v104]
def e32 : Ent := ⟨79, [v91, .str [94, 98]], [], ⟨.tuple [v105, .int .i64 0], [], []⟩⟩
theorem e32_ok : e32.Ok Go.Proofs.Tryz.prog := evIs_ok Tryz.envOk (l := [e31]) ⟨e31_ok, trivial⟩ (by kernel_rfl)
def v107 : AV := .agg [.int .i64 3, .int .i64 3, .int .i64 0, .int .i64 0, .int .i64 0, .tree [], .str [], .str [94, 98]]
def v108 : AV := .tree [v82, v69, v105]
def v109 : AV := .agg [.int .i64 3, .int .i64 4, v61, v108, .tree [], v77]
def v110 : AV := .tuple [v109, .int .i64 0]
def e33 : Ent := ⟨47, [v93, v107], [], ⟨v110, [], []⟩⟩
theorem e33_ok : e33.Ok Go.Proofs.Tryz.prog := evIs_ok Tryz.envOk (l := [e32]) ⟨e32_ok, trivial⟩ (by kernel_rfl)
def e34 : Ent := ⟨23, [v93, v107], [], ⟨v110, [], []⟩⟩
theorem e34_ok : e34.Ok Go.Proofs.Tryz.prog := evIs_ok Tryz.envOk (l := [e33]) ⟨e33_ok, trivial⟩ (by kernel_rfl)
def e35 : Ent := ⟨15, [v109], [], ⟨.int .i64 4, [], []⟩⟩
theorem e35_ok : e35.Ok Go.Proofs.Tryz.prog := evIs_ok Tryz.envOk (l := []) trivial (by kernel_rfl)
def e36 : Ent := ⟨19, [v109], [], ⟨.int .i64 126, [], []⟩⟩
theorem e36_ok : e36.Ok Go.Proofs.Tryz.prog := evIs_ok Tryz.envOk (l := [e35]) ⟨e35_ok, trivial⟩ (by kernel_rfl)
def v112 : AV := .agg [.int .i64 1, .int .i64 1, .int .i64 2, .int .i64 1, .bool false, .tree [], .str [], .str []]
def v113 : AV := .tree [v112]
def v114 : AV := .agg [.int .i64 1, .int .i64 1, .int .i64 2, .int .i64 1]
def v115 : AV := .tree [v114]
def v116 : AV := .agg [.int .i64 2, .int .i64 2, .str [42], v115, .tree [.int .i64 0, .int .i64 0, .int .i64 0]]
def v117 : AV := .tree [v15, v116, v64]
def v118 : AV := .agg [.int .i64 2, .int .i64 3, .int .i64 1, .int .i64 1, .int .i64 6, v113, v117]
def e37 : Ent := ⟨58, [v69, .int .i64 1, .tree [], .str [], .str []], [], ⟨.tuple [v118, v112, .int .i64 0], [], []⟩⟩
theorem e37_ok : e37.Ok Go.Proofs.Tryz.prog := evIs_ok Tryz.envOk (l := []) trivial (by kernel_rfl)
def v120 : AV := .agg [.int .i64 1, .int .i64 2, .int .i64 0, .int .i64 0, .int .i64 1, .tree [], .str [], .str []]
def v121 : AV := .tree [v82, v118, v105]
def v122 : AV := .tree [v76, v112]
def v123 : AV := .agg [.int .i64 3, .int .i64 4, v61, v121, .tree [], v122]
def v124 : AV := .tuple [v123, .int .i64 0]
def e38 : Ent := ⟨47, [v109, v120], [], ⟨v124, [], []⟩⟩
theorem e38_ok : e38.Ok Go.Proofs.Tryz.prog := evIs_ok Tryz.envOk (l := [e37]) ⟨e37_ok, trivial⟩ (by kernel_rfl)
def e39 : Ent := ⟨23, [v109, v120], [], ⟨v124, [], []⟩⟩
theorem e39_ok : e39.Ok Go.Proofs.Tryz.prog := evIs_ok Tryz.envOk (l := [e38]) ⟨e38_ok, trivial⟩ (by kernel_rfl)
def e40 : Ent := ⟨40, [v118], [], ⟨v116, [], []⟩⟩
theorem e40_ok : e40.Ok Go.Proofs.Tryz.prog := evIs_ok Tryz.envOk (l := []) trivial (by kernel_rfl)
def e41 : Ent := ⟨15, [v123], [], ⟨.int .i64 4, [], []⟩⟩
theorem e41_ok : e41.Ok Go.Proofs.Tryz.prog := evIs_ok Tryz.envOk (l := [e40]) ⟨e40_ok, trivial⟩ (by kernel_rfl)
def e42 : Ent := ⟨17, [v123], [], ⟨.int .i64 2, [], []⟩⟩
theorem e42_ok : e42.Ok Go.Proofs.Tryz.prog := evIs_ok Tryz.envOk (l := []) trivial (by kernel_rfl)
def e43 : Ent := ⟨19, [v123], [], ⟨.int .i64 126, [], []⟩⟩
theorem e43_ok : e43.Ok Go.Proofs.Tryz.prog := evIs_ok Tryz.envOk (l := [e41, e42]) ⟨e41_ok, e42_ok, trivial⟩ (by kernel_rfl)
def v127 : AV := .agg [.int .i64 2, .int .i64 3, .str [42], v115, .tree [.int .i64 0, .int .i64 0, .int .i64 2]]
def v128 : AV := .tree [v15, v127, v103]
def v129 : AV := .agg [.int .i64 2, .int .i64 3, .int .i64 1, .int .i64 1, .int .i64 6, v113, v128]
def e44 : Ent := ⟨53, [v118, .agg [.int .i64 3, .int .i64 2, .tree [v103], .tree []]], [], ⟨.tuple [v129, .int .i64 0], [], []⟩⟩
theorem e44_ok : e44.Ok Go.Proofs.Tryz.prog := evIs_ok Tryz.envOk (l := []) trivial (by kernel_rfl)
def v131 : AV := .tree [v82, v129, v105]
def v132 : AV := .agg [.int .i64 3, .int .i64 4, v61, v131, .tree [], v122]
def e45 : Ent := ⟨24, [v123, .int .i64 3, .int .i64 2], [], ⟨v132, [], []⟩⟩
theorem e45_ok : e45.Ok Go.Proofs.Tryz.prog := evIs_ok Tryz.envOk (l := [e44]) ⟨e44_ok, trivial⟩ (by kernel_rfl)
def e46 : Ent := ⟨40, [v129], [], ⟨v127, [], []⟩⟩
theorem e46_ok : e46.Ok Go.Proofs.Tryz.prog := evIs_ok Tryz.envOk (l := []) trivial (by kernel_rfl)
def e47 : Ent := ⟨15, [v132], [], ⟨.int .i64 2, [], []⟩⟩
theorem e47_ok : e47.Ok Go.Proofs.Tryz.prog := evIs_ok Tryz.envOk (l := [e46]) ⟨e46_ok, trivial⟩ (by kernel_rfl)
def v133 : AV := .tree [v80]
def v134 : AV := .agg [.int .i64 1, .int .i64 2, v133, v77]
def e48 : Ent := ⟨28, [v82, .int .i64 2, .int .i64 4], [], ⟨.tuple [v134, .bool true], [], []⟩⟩
theorem e48_ok : e48.Ok Go.Proofs.Tryz.prog := evIs_ok Tryz.envOk (l := []) trivial (by kernel_rfl)
def v136 : AV := .tree [v80, v116, v64]
def v137 : AV := .agg [.int .i64 2, .int .i64 3, .int .i64 1, .int .i64 1, .int .i64 6, v113, v136]
def e49 : Ent := ⟨53, [v118, v134], [], ⟨.tuple [v137, .int .i64 0], [], []⟩⟩
theorem e49_ok : e49.Ok Go.Proofs.Tryz.prog := evIs_ok Tryz.envOk (l := []) trivial (by kernel_rfl)
def v139 : AV := .tree [v82, v137, v105]
def v140 : AV := .agg [.int .i64 3, .int .i64 4, v61, v139, .tree [], v122]
def e50 : Ent := ⟨24, [v123, .int .i64 1, .int .i64 2], [], ⟨v140, [], []⟩⟩
theorem e50_ok : e50.Ok Go.Proofs.Tryz.prog := evIs_ok Tryz.envOk (l := [e48, e49]) ⟨e48_ok, e49_ok, trivial⟩ (by kernel_rfl)
def v141 : AV := .tree [v80, v116]
def v142 : AV := .agg [.int .i64 2, .int .i64 1, v141, v113]
def e51 : Ent := ⟨28, [v137, .int .i64 1, .int .i64 4], [], ⟨.tuple [v142, .bool true], [], []⟩⟩
theorem e51_ok : e51.Ok Go.Proofs.Tryz.prog := evIs_ok Tryz.envOk (l := []) trivial (by kernel_rfl)
def e52 : Ent := ⟨35, [v142, .int .i64 3], [], ⟨.bool true, [], []⟩⟩
theorem e52_ok : e52.Ok Go.Proofs.Tryz.prog := evIs_ok Tryz.envOk (l := []) trivial (by kernel_rfl)
def v144 : AV := .agg [.int .i64 1, .int .i64 3, .str [42], v115, .tree [.int .i64 0, .int .i64 0, .int .i64 0]]
def v145 : AV := .tree [v144, v116, v64]
def v146 : AV := .agg [.int .i64 1, .int .i64 3, .int .i64 1, .int .i64 1, .int .i64 6, v113, v145]
def e53 : Ent := ⟨53, [v82, v142], [], ⟨.tuple [v146, .int .i64 0], [], []⟩⟩
theorem e53_ok : e53.Ok Go.Proofs.Tryz.prog := evIs_ok Tryz.envOk (l := [e52]) ⟨e52_ok, trivial⟩ (by kernel_rfl)
def v148 : AV := .tree [v146, v137, v105]
def v149 : AV := .agg [.int .i64 3, .int .i64 4, v61, v148, .tree [], v122]
def e54 : Ent := ⟨24, [v140, .int .i64 2, .int .i64 1], [], ⟨v149, [], []⟩⟩
theorem e54_ok : e54.Ok Go.Proofs.Tryz.prog := evIs_ok Tryz.envOk (l := [e51, e53]) ⟨e51_ok, e53_ok, trivial⟩ (by kernel_rfl)
def v151 : AV := .agg [.int .i64 3, .int .i64 4, .str [94, 98], v115, .tree [.int .i64 0, .int .i64 0, .int .i64 2]]
def v152 : AV := .tree [v80, v116, v151]
def v153 : AV := .agg [.int .i64 3, .int .i64 3, .int .i64 1, .int .i64 0, .int .i64 6, v113, v152]
def e55 : Ent := ⟨53, [v105, .agg [.int .i64 2, .int .i64 3, v141, v113]], [], ⟨.tuple [v153, .int .i64 0], [], []⟩⟩
theorem e55_ok : e55.Ok Go.Proofs.Tryz.prog := evIs_ok Tryz.envOk (l := []) trivial (by kernel_rfl)
def v155 : AV := .tree [v146, v137, v153]
def v156 : AV := .agg [.int .i64 3, .int .i64 4, v61, v155, .tree [], v122]
def e56 : Ent := ⟨24, [v149, .int .i64 2, .int .i64 3], [], ⟨v156, [], []⟩⟩
theorem e56_ok : e56.Ok Go.Proofs.Tryz.prog := evIs_ok Tryz.envOk (l := [e55]) ⟨e55_ok, trivial⟩ (by kernel_rfl)
def v158 : AV := .tree [v80, v127, v151]
def v159 : AV := .agg [.int .i64 2, .int .i64 3, .int .i64 1, .int .i64 1, .int .i64 6, v113, v158]
def v160 : AV := .tuple [v159, .int .i64 0]
def e57 : Ent := ⟨53, [v137, .agg [.int .i64 3, .int .i64 2, v152, .tree []]], [], ⟨v160, [], []⟩⟩
theorem e57_ok : e57.Ok Go.Proofs.Tryz.prog := evIs_ok Tryz.envOk (l := []) trivial (by kernel_rfl)
def v161 : AV := .tree [v146, v159, v153]
def v162 : AV := .agg [.int .i64 3, .int .i64 4, v61, v161, .tree [], v122]
def e58 : Ent := ⟨24, [v156, .int .i64 3, .int .i64 2], [], ⟨v162, [], []⟩⟩
theorem e58_ok : e58.Ok Go.Proofs.Tryz.prog := evIs_ok Tryz.envOk (l := [e57]) ⟨e57_ok, trivial⟩ (by kernel_rfl)
def v164 : AV := .agg [.int .i64 3, .int .i64 3, .int .i64 1, .int .i64 0, .int .i64 6, v113, v158]
def e59 : Ent := ⟨53, [v153, .agg [.int .i64 2, .int .i64 3, v158, .tree []]], [], ⟨.tuple [v164, .int .i64 0], [], []⟩⟩
theorem e59_ok : e59.Ok Go.Proofs.Tryz.prog := evIs_ok Tryz.envOk (l := []) trivial (by kernel_rfl)
def v166 : AV := .tree [v146, v159, v164]
def v167 : AV := .agg [.int .i64 3, .int .i64 4, v61, v166, .tree [], v122]
def e60 : Ent := ⟨24, [v162, .int .i64 2, .int .i64 3], [], ⟨v167, [], []⟩⟩
theorem e60_ok : e60.Ok Go.Proofs.Tryz.prog := evIs_ok Tryz.envOk (l := [e59]) ⟨e59_ok, trivial⟩ (by kernel_rfl)
def e61 : Ent := ⟨53, [v159, .agg [.int .i64 3, .int .i64 2, v158, .tree []]], [], ⟨v160, [], []⟩⟩
theorem e61_ok : e61.Ok Go.Proofs.Tryz.prog := evIs_ok Tryz.envOk (l := []) trivial (by kernel_rfl)
def e62 : Ent := ⟨24, [v167, .int .i64 3, .int .i64 2], [], ⟨v167, [], []⟩⟩
theorem e62_ok : e62.Ok Go.Proofs.Tryz.prog := evIs_ok Tryz.envOk (l := [e61]) ⟨e61_ok, trivial⟩ (by kernel_rfl)
def v171 : AV := .tree [v144, v127, v151]
def v172 : AV := .agg [.int .i64 2, .int .i64 3, .int .i64 1, .int .i64 1, .int .i64 6, v113, v171]
def e63 : Ent := ⟨53, [v159, .agg [.int .i64 1, .int .i64 2, .tree [v144, v116], .tree []]], [], ⟨.tuple [v172, .int .i64 0], [], []⟩⟩
theorem e63_ok : e63.Ok Go.Proofs.Tryz.prog := evIs_ok Tryz.envOk (l := []) trivial (by kernel_rfl)
def v174 : AV := .tree [v146, v172, v164]
def v175 : AV := .agg [.int .i64 3, .int .i64 4, v61, v174, .tree [], v122]
def e64 : Ent := ⟨24, [v167, .int .i64 1, .int .i64 2], [], ⟨v175, [], []⟩⟩
theorem e64_ok : e64.Ok Go.Proofs.Tryz.prog := evIs_ok Tryz.envOk (l := [e63]) ⟨e63_ok, trivial⟩ (by kernel_rfl)
def v177 : AV := .agg [.int .i64 1, .int .i64 4, .str [42], v115, .tree [.int .i64 0, .int .i64 0, .int .i64 2]]
def v178 : AV := .tree [v177, v127, v151]
def v179 : AV := .agg [.int .i64 1, .int .i64 3, .int .i64 1, .int .i64 1, .int .i64 6, v113, v178]
def e65 : Ent := ⟨53, [v146, .agg [.int .i64 2, .int .i64 1, v171, .tree []]], [], ⟨.tuple [v179, .int .i64 0], [], []⟩⟩
theorem e65_ok : e65.Ok Go.Proofs.Tryz.prog := evIs_ok Tryz.envOk (l := []) trivial (by kernel_rfl)
def v181 : AV := .tree [v179, v172, v164]
def v182 : AV := .agg [.int .i64 3, .int .i64 4, v61, v181, .tree [], v122]
def e66 : Ent := ⟨24, [v175, .int .i64 2, .int .i64 1], [], ⟨v182, [], []⟩⟩
theorem e66_ok : e66.Ok Go.Proofs.Tryz.prog := evIs_ok Tryz.envOk (l := [e65]) ⟨e65_ok, trivial⟩ (by kernel_rfl)
def e67 : Ent := ⟨14, [v123], [], ⟨v182, [], []⟩⟩
theorem e67_ok : e67.Ok Go.Proofs.Tryz.prog := evIs_ok Tryz.envOk (l := [e50, e54, e56, e58, e60, e62, e64, e66]) ⟨e50_ok, e54_ok, e56_ok, e58_ok, e60_ok, e62_ok, e64_ok, e66_ok, trivial⟩ (by kernel_rfl)
def e68 : Ent := ⟨40, [v172], [], ⟨v127, [], []⟩⟩
theorem e68_ok : e68.Ok Go.Proofs.Tryz.prog := evIs_ok Tryz.envOk (l := []) trivial (by kernel_rfl)
def e69 : Ent := ⟨40, [v164], [], ⟨v151, [], []⟩⟩
theorem e69_ok : e69.Ok Go.Proofs.Tryz.prog := evIs_ok Tryz.envOk (l := []) trivial (by kernel_rfl)
def e70 : Ent := ⟨15, [v182], [], ⟨.int .i64 0, [], []⟩⟩
theorem e70_ok : e70.Ok Go.Proofs.Tryz.prog := evIs_ok Tryz.envOk (l := [e68, e69]) ⟨e68_ok, e69_ok, trivial⟩ (by kernel_rfl)
def e71 : Ent := ⟨17, [v182], [], ⟨.int .i64 0, [], []⟩⟩
theorem e71_ok : e71.Ok Go.Proofs.Tryz.prog := evIs_ok Tryz.envOk (l := []) trivial (by kernel_rfl)
def e72 : Ent := ⟨19, [v182], [], ⟨.int .i64 0, [], []⟩⟩
theorem e72_ok : e72.Ok Go.Proofs.Tryz.prog := evIs_ok Tryz.envOk (l := [e70, e71]) ⟨e70_ok, e71_ok, trivial⟩ (by kernel_rfl)
def e73 : Ent := ⟨5, [], [], ⟨.bool true, [], []⟩⟩
theorem e73_ok : e73.Ok Go.Proofs.Tryz.prog := evIs_ok Tryz.envOk (l := [e16, e18, e21, e25, e27, e34, e36, e39, e43, e45, e47, e67, e72]) ⟨e16_ok, e18_ok, e21_ok, e25_ok, e27_ok, e34_ok, e36_ok, e39_ok, e43_ok, e45_ok, e47_ok, e67_ok, e72_ok, trivial⟩ (by kernel_rfl)
theorem root : SoundCall Go.Proofs.Tryz.prog 5 [] [] ⟨.bool true, [], []⟩ := e73_ok
end Go.Ab.rankForms
