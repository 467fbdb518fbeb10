/- The calls of GoalForms, one by one: each comes to what is written here (looked at by the kernel). Printed by mkmemo.py. -/
import Derived.Test.YtgaibmbphbmlkaaGreatDoorHand
set_option maxRecDepth 1000000
namespace Go.Ab.goalForms
open Go Go.Ab
def v10 : AV := .agg [.int .i64 1, .int .i64 1, .str [42], .tree [], .tree [.int .i64 0, .int .i64 0]]
def v12 : AV := .agg [.int .i64 2, .int .i64 0, .str [], .tree [], .tree []]
def v13 : AV := .tree [v10, v12]
def v14 : AV := .agg [.int .i64 1, .int .i64 2, .int .i64 0, .int .i64 0, .int .i64 6, .tree [], v13]
def v15 : AV := .agg [.int .i64 1, .int .i64 0, .str [], .tree [], .tree []]
def v16 : AV := .agg [.int .i64 2, .int .i64 1, .str [42], .tree [], .tree [.int .i64 0, .int .i64 0]]
def v17 : AV := .tree [v15, v16]
def v18 : AV := .agg [.int .i64 2, .int .i64 2, .int .i64 0, .int .i64 0, .int .i64 6, .tree [], v17]
def v19 : AV := .tree [v14, v18]
def v20 : AV := .agg [.int .i64 2, .int .i64 4, .tree [.agg [.int .i64 1, .int .i64 2]], v19, .tree [], .tree []]
def e0 : Ent := ⟨16, [.int .i64 2, .tree [.agg [.int .i64 1, .int .i64 2]], .int .i64 4, .int .i64 6], [], ⟨.tuple [v20, .bool true], [], []⟩⟩
theorem e0_ok : e0.Ok Go.Proofs.Tryz.prog Tryz.phi := evIs_ok Tryz.envOk (l := []) trivial (by kernel_rfl)
def v26 : AV := .tree [.agg [.int .i64 3, .str [42], .int .i64 0, .int .i64 0]]
def v29 : AV := .agg [.int .i64 1, .int .i64 0, .int .i64 0, .int .i64 0, .str [], .tree []]
def e1 : Ent := ⟨258, [.ref (.inc 0) 0 0], [.box (.agg [v26, .int .i64 0, .int .i64 1, .bool false, .int .i64 0]) true], ⟨v29, [.box (.agg [v26, .int .i64 1, .int .i64 1, .bool false, .int .i64 0]) true], []⟩⟩
theorem e1_ok : e1.Ok Go.Proofs.Tryz.prog Tryz.phi := evIs_ok Tryz.envOk (l := []) trivial (by kernel_rfl)
def v31 : AV := .tuple [v29, .int .i64 0, .bool true]
def e2 : Ent := ⟨200, [.str [42]], [], ⟨v31, [], []⟩⟩
theorem e2_ok : e2.Ok Go.Proofs.Tryz.prog Tryz.phi := evIs_ok Tryz.envOk (l := [e1]) ⟨e1_ok, trivial⟩ (by kernel_rfl)
def e3 : Ent := ⟨131, [v14], [], ⟨v29, [], []⟩⟩
theorem e3_ok : e3.Ok Go.Proofs.Tryz.prog Tryz.phi := evIs_ok Tryz.envOk (l := [e2]) ⟨e2_ok, trivial⟩ (by kernel_rfl)
def v34 : AV := .agg [.int .i64 2, .int .i64 1, .int .i64 1, .int .i64 1, .bool false, .tree [], .str [97], .str [98]]
def v35 : AV := .tree [v34]
def v36 : AV := .agg [.int .i64 2, .int .i64 1, .int .i64 1, .int .i64 1]
def v37 : AV := .tree [v36]
def v38 : AV := .agg [.int .i64 1, .int .i64 2, .str [42], v37, .tree [.int .i64 0, .int .i64 0]]
def v39 : AV := .tree [v38, v12]
def v40 : AV := .agg [.int .i64 1, .int .i64 2, .int .i64 1, .int .i64 1, .int .i64 6, v35, v39]
def e4 : Ent := ⟨115, [v14, .int .i64 2, .tree [], .str [97], .str [98]], [], ⟨.tuple [v40, v34, .int .i64 0], [], []⟩⟩
theorem e4_ok : e4.Ok Go.Proofs.Tryz.prog Tryz.phi := evIs_ok Tryz.envOk (l := [e3]) ⟨e3_ok, trivial⟩ (by kernel_rfl)
def v42 : AV := .agg [.int .i64 1, .int .i64 1, .int .i64 0, .int .i64 0, .int .i64 2, .tree [], .str [97], .str [98]]
def v43 : AV := .tree [v40, v18]
def v44 : AV := .agg [.int .i64 2, .int .i64 4, .tree [.agg [.int .i64 1, .int .i64 2]], v43, .tree [], v35]
def v45 : AV := .tuple [v44, .int .i64 0]
def e5 : Ent := ⟨53, [v20, v42], [], ⟨v45, [], []⟩⟩
theorem e5_ok : e5.Ok Go.Proofs.Tryz.prog Tryz.phi := evIs_ok Tryz.envOk (l := [e4]) ⟨e4_ok, trivial⟩ (by kernel_rfl)
def e6 : Ent := ⟨17, [v20, v42], [], ⟨v45, [], []⟩⟩
theorem e6_ok : e6.Ok Go.Proofs.Tryz.prog Tryz.phi := evIs_ok Tryz.envOk (l := [e5]) ⟨e5_ok, trivial⟩ (by kernel_rfl)
def v46 : AV := .tree [v38]
def v47 : AV := .agg [.int .i64 1, .int .i64 2, v46, v35]
def e7 : Ent := ⟨41, [v40, .int .i64 2, .int .i64 4], [], ⟨.tuple [v47, .bool true], [], []⟩⟩
theorem e7_ok : e7.Ok Go.Proofs.Tryz.prog Tryz.phi := evIs_ok Tryz.envOk (l := []) trivial (by kernel_rfl)
def v49 : AV := .agg [.int .i64 2, .int .i64 2, .str [42], v37, .tree [.int .i64 0, .int .i64 0]]
def v50 : AV := .tree [v38, v49]
def v51 : AV := .agg [.int .i64 2, .int .i64 2, .int .i64 1, .int .i64 0, .int .i64 6, v35, v50]
def v52 : AV := .tuple [v51, .int .i64 0]
def e8 : Ent := ⟨59, [v18, v47], [], ⟨v52, [], []⟩⟩
theorem e8_ok : e8.Ok Go.Proofs.Tryz.prog Tryz.phi := evIs_ok Tryz.envOk (l := [e2]) ⟨e2_ok, trivial⟩ (by kernel_rfl)
def v53 : AV := .tree [v40, v51]
def v54 : AV := .agg [.int .i64 2, .int .i64 4, .tree [.agg [.int .i64 1, .int .i64 2]], v53, .tree [], v35]
def e9 : Ent := ⟨40, [v44, .int .i64 1, .int .i64 2], [], ⟨v54, [], []⟩⟩
theorem e9_ok : e9.Ok Go.Proofs.Tryz.prog Tryz.phi := evIs_ok Tryz.envOk (l := [e7, e8]) ⟨e7_ok, e8_ok, trivial⟩ (by kernel_rfl)
def v56 : AV := .agg [.int .i64 1, .int .i64 2, .int .i64 1, .int .i64 1, .int .i64 6, v35, v50]
def e10 : Ent := ⟨59, [v40, .agg [.int .i64 2, .int .i64 1, v50, .tree []]], [], ⟨.tuple [v56, .int .i64 0], [], []⟩⟩
theorem e10_ok : e10.Ok Go.Proofs.Tryz.prog Tryz.phi := evIs_ok Tryz.envOk (l := [e2]) ⟨e2_ok, trivial⟩ (by kernel_rfl)
def v58 : AV := .tree [v56, v51]
def v59 : AV := .agg [.int .i64 2, .int .i64 4, .tree [.agg [.int .i64 1, .int .i64 2]], v58, .tree [], v35]
def e11 : Ent := ⟨40, [v54, .int .i64 2, .int .i64 1], [], ⟨v59, [], []⟩⟩
theorem e11_ok : e11.Ok Go.Proofs.Tryz.prog Tryz.phi := evIs_ok Tryz.envOk (l := [e10]) ⟨e10_ok, trivial⟩ (by kernel_rfl)
def e12 : Ent := ⟨59, [v51, .agg [.int .i64 1, .int .i64 2, v50, .tree []]], [], ⟨v52, [], []⟩⟩
theorem e12_ok : e12.Ok Go.Proofs.Tryz.prog Tryz.phi := evIs_ok Tryz.envOk (l := []) trivial (by kernel_rfl)
def e13 : Ent := ⟨40, [v59, .int .i64 1, .int .i64 2], [], ⟨v59, [], []⟩⟩
theorem e13_ok : e13.Ok Go.Proofs.Tryz.prog Tryz.phi := evIs_ok Tryz.envOk (l := [e12]) ⟨e12_ok, trivial⟩ (by kernel_rfl)
def e14 : Ent := ⟨40, [v59, .int .i64 2, .int .i64 1], [], ⟨v59, [], []⟩⟩
theorem e14_ok : e14.Ok Go.Proofs.Tryz.prog Tryz.phi := evIs_ok Tryz.envOk (l := []) trivial (by kernel_rfl)
def e15 : Ent := ⟨21, [v44], [], ⟨v59, [], []⟩⟩
theorem e15_ok : e15.Ok Go.Proofs.Tryz.prog Tryz.phi := evIs_ok Tryz.envOk (l := [e9, e11, e13, e14]) ⟨e9_ok, e11_ok, e13_ok, e14_ok, trivial⟩ (by kernel_rfl)
def e16 : Ent := ⟨38, [.str [42]], [], ⟨v31, [], []⟩⟩
theorem e16_ok : e16.Ok Go.Proofs.Tryz.prog Tryz.phi := evIs_ok Tryz.envOk (l := []) trivial (by kernel_rfl)
def e17 : Ent := ⟨49, [v14], [], ⟨v29, [], []⟩⟩
theorem e17_ok : e17.Ok Go.Proofs.Tryz.prog Tryz.phi := evIs_ok Tryz.envOk (l := [e16]) ⟨e16_ok, trivial⟩ (by kernel_rfl)
def e18 : Ent := ⟨70, [v20, v14], [], ⟨.bool true, [], []⟩⟩
theorem e18_ok : e18.Ok Go.Proofs.Tryz.prog Tryz.phi := evIs_ok Tryz.envOk (l := [e17]) ⟨e17_ok, trivial⟩ (by kernel_rfl)
def v61 : AV := .cptr (v20)
def e19 : Ent := ⟨69, [v14, v61], [], ⟨.bool false, [], []⟩⟩
theorem e19_ok : e19.Ok Go.Proofs.Tryz.prog Tryz.phi := evIs_ok Tryz.envOk (l := [e18]) ⟨e18_ok, trivial⟩ (by kernel_rfl)
def e20 : Ent := ⟨70, [v20, v18], [], ⟨.bool true, [], []⟩⟩
theorem e20_ok : e20.Ok Go.Proofs.Tryz.prog Tryz.phi := evIs_ok Tryz.envOk (l := [e16]) ⟨e16_ok, trivial⟩ (by kernel_rfl)
def e21 : Ent := ⟨69, [v18, v61], [], ⟨.bool false, [], []⟩⟩
theorem e21_ok : e21.Ok Go.Proofs.Tryz.prog Tryz.phi := evIs_ok Tryz.envOk (l := [e20]) ⟨e20_ok, trivial⟩ (by kernel_rfl)
def v62 : AV := .func 69 [] [v61]
def e22 : Ent := ⟨139, [v19, v62], [], ⟨.int .i64 (-1), [], []⟩⟩
theorem e22_ok : e22.Ok Go.Proofs.Tryz.prog Tryz.phi := evIs_ok Tryz.envOk (l := [e19, e21]) ⟨e19_ok, e21_ok, trivial⟩ (by kernel_rfl)
def e23 : Ent := ⟨66, [v19, v62], [], ⟨.bool false, [], []⟩⟩
theorem e23_ok : e23.Ok Go.Proofs.Tryz.prog Tryz.phi := evIs_ok Tryz.envOk (l := [e22]) ⟨e22_ok, trivial⟩ (by kernel_rfl)
def e24 : Ent := ⟨20, [v20], [], ⟨.bool true, [], []⟩⟩
theorem e24_ok : e24.Ok Go.Proofs.Tryz.prog Tryz.phi := evIs_ok Tryz.envOk (l := [e23]) ⟨e23_ok, trivial⟩ (by kernel_rfl)
def e25 : Ent := ⟨70, [v44, v40], [], ⟨.bool true, [], []⟩⟩
theorem e25_ok : e25.Ok Go.Proofs.Tryz.prog Tryz.phi := evIs_ok Tryz.envOk (l := [e16]) ⟨e16_ok, trivial⟩ (by kernel_rfl)
def v64 : AV := .cptr (v44)
def e26 : Ent := ⟨69, [v40, v64], [], ⟨.bool false, [], []⟩⟩
theorem e26_ok : e26.Ok Go.Proofs.Tryz.prog Tryz.phi := evIs_ok Tryz.envOk (l := [e25]) ⟨e25_ok, trivial⟩ (by kernel_rfl)
def v65 : AV := .func 69 [] [v64]
def e27 : Ent := ⟨139, [v43, v65], [], ⟨.int .i64 1, [], []⟩⟩
theorem e27_ok : e27.Ok Go.Proofs.Tryz.prog Tryz.phi := evIs_ok Tryz.envOk (l := [e26]) ⟨e26_ok, trivial⟩ (by kernel_rfl)
def e28 : Ent := ⟨66, [v43, v65], [], ⟨.bool true, [], []⟩⟩
theorem e28_ok : e28.Ok Go.Proofs.Tryz.prog Tryz.phi := evIs_ok Tryz.envOk (l := [e27]) ⟨e27_ok, trivial⟩ (by kernel_rfl)
def e29 : Ent := ⟨20, [v44], [], ⟨.bool false, [], []⟩⟩
theorem e29_ok : e29.Ok Go.Proofs.Tryz.prog Tryz.phi := evIs_ok Tryz.envOk (l := [e28]) ⟨e28_ok, trivial⟩ (by kernel_rfl)
def e30 : Ent := ⟨70, [v59, v56], [], ⟨.bool true, [], []⟩⟩
theorem e30_ok : e30.Ok Go.Proofs.Tryz.prog Tryz.phi := evIs_ok Tryz.envOk (l := [e16]) ⟨e16_ok, trivial⟩ (by kernel_rfl)
def v66 : AV := .cptr (v59)
def e31 : Ent := ⟨69, [v56, v66], [], ⟨.bool false, [], []⟩⟩
theorem e31_ok : e31.Ok Go.Proofs.Tryz.prog Tryz.phi := evIs_ok Tryz.envOk (l := [e30]) ⟨e30_ok, trivial⟩ (by kernel_rfl)
def e32 : Ent := ⟨70, [v59, v51], [], ⟨.bool true, [], []⟩⟩
theorem e32_ok : e32.Ok Go.Proofs.Tryz.prog Tryz.phi := evIs_ok Tryz.envOk (l := [e16]) ⟨e16_ok, trivial⟩ (by kernel_rfl)
def e33 : Ent := ⟨69, [v51, v66], [], ⟨.bool false, [], []⟩⟩
theorem e33_ok : e33.Ok Go.Proofs.Tryz.prog Tryz.phi := evIs_ok Tryz.envOk (l := [e32]) ⟨e32_ok, trivial⟩ (by kernel_rfl)
def v67 : AV := .func 69 [] [v66]
def e34 : Ent := ⟨139, [v58, v67], [], ⟨.int .i64 (-1), [], []⟩⟩
theorem e34_ok : e34.Ok Go.Proofs.Tryz.prog Tryz.phi := evIs_ok Tryz.envOk (l := [e31, e33]) ⟨e31_ok, e33_ok, trivial⟩ (by kernel_rfl)
def e35 : Ent := ⟨66, [v58, v67], [], ⟨.bool false, [], []⟩⟩
theorem e35_ok : e35.Ok Go.Proofs.Tryz.prog Tryz.phi := evIs_ok Tryz.envOk (l := [e34]) ⟨e34_ok, trivial⟩ (by kernel_rfl)
def e36 : Ent := ⟨20, [v59], [], ⟨.bool true, [], []⟩⟩
theorem e36_ok : e36.Ok Go.Proofs.Tryz.prog Tryz.phi := evIs_ok Tryz.envOk (l := [e35]) ⟨e35_ok, trivial⟩ (by kernel_rfl)
def e37 : Ent := ⟨15, [], [], ⟨.bool true, [], []⟩⟩
theorem e37_ok : e37.Ok Go.Proofs.Tryz.prog Tryz.phi := evIs_ok Tryz.envOk (l := [e0, e6, e15, e24, e29, e36]) ⟨e0_ok, e6_ok, e15_ok, e24_ok, e29_ok, e36_ok, trivial⟩ (by kernel_rfl)
def v71 : AV := .tree [.agg [.int .i64 3, .str [94], .int .i64 0, .int .i64 0], .agg [.int .i64 1, .str [97], .int .i64 0, .int .i64 1]]
def v72 : AV := .agg [v71, .int .i64 0, .int .i64 2, .bool false, .int .i64 0]
def v73 : AV := .agg [.int .i64 4, .int .i64 0, .int .i64 0, .int .i64 0, .str [97], .tree []]
def v74 : AV := .agg [v71, .int .i64 2, .int .i64 2, .bool false, .int .i64 0]
def e38 : Ent := ⟨318, [.ref (.inc 0) 0 0], [.box (v72) true], ⟨v73, [.box (v74) true], []⟩⟩
theorem e38_ok : e38.Ok Go.Proofs.Tryz.prog Tryz.phi := evIs_ok Tryz.envOk (l := []) trivial (by kernel_rfl)
def e39 : Ent := ⟨292, [.ref (.inc 0) 0 0], [.box (v72) true], ⟨v73, [.box (v74) true], []⟩⟩
theorem e39_ok : e39.Ok Go.Proofs.Tryz.prog Tryz.phi := evIs_ok Tryz.envOk (l := [e38]) ⟨e38_ok, trivial⟩ (by kernel_rfl)
def e40 : Ent := ⟨258, [.ref (.inc 0) 0 0], [.box (v72) true], ⟨v73, [.box (v74) true], []⟩⟩
theorem e40_ok : e40.Ok Go.Proofs.Tryz.prog Tryz.phi := evIs_ok Tryz.envOk (l := [e39]) ⟨e39_ok, trivial⟩ (by kernel_rfl)
def v76 : AV := .tuple [v73, .int .i64 0, .bool true]
def e41 : Ent := ⟨200, [.str [94, 97]], [], ⟨v76, [], []⟩⟩
theorem e41_ok : e41.Ok Go.Proofs.Tryz.prog Tryz.phi := evIs_ok Tryz.envOk (l := [e40]) ⟨e40_ok, trivial⟩ (by kernel_rfl)
def v78 : AV := .agg [.int .i64 1, .int .i64 2, .str [94, 97], .tree [], .tree [.int .i64 1, .int .i64 0]]
def v79 : AV := .tree [v78, v12]
def v80 : AV := .agg [.int .i64 1, .int .i64 2, .int .i64 0, .int .i64 0, .int .i64 6, .tree [], v79]
def e42 : Ent := ⟨114, [v14, .str [94, 97]], [], ⟨.tuple [v80, .int .i64 0], [], []⟩⟩
theorem e42_ok : e42.Ok Go.Proofs.Tryz.prog Tryz.phi := evIs_ok Tryz.envOk (l := [e41]) ⟨e41_ok, trivial⟩ (by kernel_rfl)
def v82 : AV := .agg [.int .i64 3, .int .i64 1, .int .i64 0, .int .i64 0, .int .i64 0, .tree [], .str [], .str [94, 97]]
def v83 : AV := .tree [v80, v18]
def v84 : AV := .agg [.int .i64 2, .int .i64 4, .tree [.agg [.int .i64 1, .int .i64 2]], v83, .tree [], .tree []]
def v85 : AV := .tuple [v84, .int .i64 0]
def e43 : Ent := ⟨53, [v20, v82], [], ⟨v85, [], []⟩⟩
theorem e43_ok : e43.Ok Go.Proofs.Tryz.prog Tryz.phi := evIs_ok Tryz.envOk (l := [e42]) ⟨e42_ok, trivial⟩ (by kernel_rfl)
def e44 : Ent := ⟨17, [v20, v82], [], ⟨v85, [], []⟩⟩
theorem e44_ok : e44.Ok Go.Proofs.Tryz.prog Tryz.phi := evIs_ok Tryz.envOk (l := [e43]) ⟨e43_ok, trivial⟩ (by kernel_rfl)
def v87 : AV := .tree [.agg [.int .i64 3, .str [94], .int .i64 0, .int .i64 0], .agg [.int .i64 1, .str [98], .int .i64 0, .int .i64 1]]
def v88 : AV := .agg [v87, .int .i64 0, .int .i64 2, .bool false, .int .i64 0]
def v89 : AV := .agg [.int .i64 4, .int .i64 0, .int .i64 0, .int .i64 0, .str [98], .tree []]
def v90 : AV := .agg [v87, .int .i64 2, .int .i64 2, .bool false, .int .i64 0]
def e45 : Ent := ⟨318, [.ref (.inc 0) 0 0], [.box (v88) true], ⟨v89, [.box (v90) true], []⟩⟩
theorem e45_ok : e45.Ok Go.Proofs.Tryz.prog Tryz.phi := evIs_ok Tryz.envOk (l := []) trivial (by kernel_rfl)
def e46 : Ent := ⟨292, [.ref (.inc 0) 0 0], [.box (v88) true], ⟨v89, [.box (v90) true], []⟩⟩
theorem e46_ok : e46.Ok Go.Proofs.Tryz.prog Tryz.phi := evIs_ok Tryz.envOk (l := [e45]) ⟨e45_ok, trivial⟩ (by kernel_rfl)
def e47 : Ent := ⟨258, [.ref (.inc 0) 0 0], [.box (v88) true], ⟨v89, [.box (v90) true], []⟩⟩
theorem e47_ok : e47.Ok Go.Proofs.Tryz.prog Tryz.phi := evIs_ok Tryz.envOk (l := [e46]) ⟨e46_ok, trivial⟩ (by kernel_rfl)
def v92 : AV := .tuple [v89, .int .i64 0, .bool true]
def e48 : Ent := ⟨200, [.str [94, 98]], [], ⟨v92, [], []⟩⟩
theorem e48_ok : e48.Ok Go.Proofs.Tryz.prog Tryz.phi := evIs_ok Tryz.envOk (l := [e47]) ⟨e47_ok, trivial⟩ (by kernel_rfl)
def v94 : AV := .agg [.int .i64 2, .int .i64 2, .str [94, 98], .tree [], .tree [.int .i64 0, .int .i64 1]]
def v95 : AV := .tree [v15, v94]
def v96 : AV := .agg [.int .i64 2, .int .i64 2, .int .i64 0, .int .i64 0, .int .i64 6, .tree [], v95]
def e49 : Ent := ⟨114, [v18, .str [94, 98]], [], ⟨.tuple [v96, .int .i64 0], [], []⟩⟩
theorem e49_ok : e49.Ok Go.Proofs.Tryz.prog Tryz.phi := evIs_ok Tryz.envOk (l := [e48]) ⟨e48_ok, trivial⟩ (by kernel_rfl)
def v98 : AV := .agg [.int .i64 3, .int .i64 2, .int .i64 0, .int .i64 0, .int .i64 0, .tree [], .str [], .str [94, 98]]
def v99 : AV := .tree [v80, v96]
def v100 : AV := .agg [.int .i64 2, .int .i64 4, .tree [.agg [.int .i64 1, .int .i64 2]], v99, .tree [], .tree []]
def v101 : AV := .tuple [v100, .int .i64 0]
def e50 : Ent := ⟨53, [v84, v98], [], ⟨v101, [], []⟩⟩
theorem e50_ok : e50.Ok Go.Proofs.Tryz.prog Tryz.phi := evIs_ok Tryz.envOk (l := [e49]) ⟨e49_ok, trivial⟩ (by kernel_rfl)
def e51 : Ent := ⟨17, [v84, v98], [], ⟨v101, [], []⟩⟩
theorem e51_ok : e51.Ok Go.Proofs.Tryz.prog Tryz.phi := evIs_ok Tryz.envOk (l := [e50]) ⟨e50_ok, trivial⟩ (by kernel_rfl)
def v102 : AV := .agg [.int .i64 1, .int .i64 1, .int .i64 1, .int .i64 1, .bool false, .tree [], .str [97], .str []]
def v103 : AV := .tree [v102]
def v104 : AV := .agg [.int .i64 1, .int .i64 1, .int .i64 1, .int .i64 1]
def v105 : AV := .tree [v104]
def v106 : AV := .agg [.int .i64 1, .int .i64 3, .str [94, 97], v105, .tree [.int .i64 1, .int .i64 0]]
def v107 : AV := .tree [v106, v12]
def v108 : AV := .agg [.int .i64 1, .int .i64 2, .int .i64 1, .int .i64 1, .int .i64 6, v103, v107]
def e52 : Ent := ⟨115, [v80, .int .i64 1, .tree [], .str [97], .str []], [], ⟨.tuple [v108, v102, .int .i64 0], [], []⟩⟩
theorem e52_ok : e52.Ok Go.Proofs.Tryz.prog Tryz.phi := evIs_ok Tryz.envOk (l := [e41]) ⟨e41_ok, trivial⟩ (by kernel_rfl)
def v110 : AV := .agg [.int .i64 1, .int .i64 1, .int .i64 0, .int .i64 0, .int .i64 1, .tree [], .str [97], .str []]
def v111 : AV := .tree [v108, v96]
def v112 : AV := .agg [.int .i64 2, .int .i64 4, .tree [.agg [.int .i64 1, .int .i64 2]], v111, .tree [], v103]
def v113 : AV := .tuple [v112, .int .i64 0]
def e53 : Ent := ⟨53, [v100, v110], [], ⟨v113, [], []⟩⟩
theorem e53_ok : e53.Ok Go.Proofs.Tryz.prog Tryz.phi := evIs_ok Tryz.envOk (l := [e52]) ⟨e52_ok, trivial⟩ (by kernel_rfl)
def e54 : Ent := ⟨17, [v100, v110], [], ⟨v113, [], []⟩⟩
theorem e54_ok : e54.Ok Go.Proofs.Tryz.prog Tryz.phi := evIs_ok Tryz.envOk (l := [e53]) ⟨e53_ok, trivial⟩ (by kernel_rfl)
def v114 : AV := .agg [.int .i64 2, .int .i64 2, .int .i64 1, .int .i64 2, .bool false, .tree [], .str [98], .str []]
def v115 : AV := .tree [v102, v114]
def v116 : AV := .agg [.int .i64 2, .int .i64 2, .int .i64 1, .int .i64 2]
def v117 : AV := .tree [v104, v116]
def v118 : AV := .agg [.int .i64 1, .int .i64 4, .str [94, 97], v117, .tree [.int .i64 1, .int .i64 0]]
def v119 : AV := .tree [v118, v12]
def v120 : AV := .agg [.int .i64 1, .int .i64 2, .int .i64 2, .int .i64 2, .int .i64 6, v115, v119]
def e55 : Ent := ⟨203, [v108, v114], [], ⟨v120, [], []⟩⟩
theorem e55_ok : e55.Ok Go.Proofs.Tryz.prog Tryz.phi := evIs_ok Tryz.envOk (l := [e41]) ⟨e41_ok, trivial⟩ (by kernel_rfl)
def e56 : Ent := ⟨115, [v108, .int .i64 2, .tree [], .str [98], .str []], [], ⟨.tuple [v120, v114, .int .i64 0], [], []⟩⟩
theorem e56_ok : e56.Ok Go.Proofs.Tryz.prog Tryz.phi := evIs_ok Tryz.envOk (l := [e55]) ⟨e55_ok, trivial⟩ (by kernel_rfl)
def v122 : AV := .agg [.int .i64 1, .int .i64 1, .int .i64 0, .int .i64 0, .int .i64 2, .tree [], .str [98], .str []]
def v123 : AV := .tree [v120, v96]
def v124 : AV := .agg [.int .i64 2, .int .i64 4, .tree [.agg [.int .i64 1, .int .i64 2]], v123, .tree [], v115]
def v125 : AV := .tuple [v124, .int .i64 0]
def e57 : Ent := ⟨53, [v112, v122], [], ⟨v125, [], []⟩⟩
theorem e57_ok : e57.Ok Go.Proofs.Tryz.prog Tryz.phi := evIs_ok Tryz.envOk (l := [e56]) ⟨e56_ok, trivial⟩ (by kernel_rfl)
def e58 : Ent := ⟨17, [v112, v122], [], ⟨v125, [], []⟩⟩
theorem e58_ok : e58.Ok Go.Proofs.Tryz.prog Tryz.phi := evIs_ok Tryz.envOk (l := [e57]) ⟨e57_ok, trivial⟩ (by kernel_rfl)
def v126 : AV := .cptr (v124)
def v127 : AV := .func 65 [] [v126]
def e59 : Ent := ⟨138, [v117, v127], [], ⟨.int .i64 (-1), [], []⟩⟩
theorem e59_ok : e59.Ok Go.Proofs.Tryz.prog Tryz.phi := evIs_ok Tryz.envOk (l := []) trivial (by kernel_rfl)
def e60 : Ent := ⟨64, [v117, v127], [], ⟨.bool false, [], []⟩⟩
theorem e60_ok : e60.Ok Go.Proofs.Tryz.prog Tryz.phi := evIs_ok Tryz.envOk (l := [e59]) ⟨e59_ok, trivial⟩ (by kernel_rfl)
def e61 : Ent := ⟨18, [v124], [], ⟨.bool true, [], []⟩⟩
theorem e61_ok : e61.Ok Go.Proofs.Tryz.prog Tryz.phi := evIs_ok Tryz.envOk (l := [e60]) ⟨e60_ok, trivial⟩ (by kernel_rfl)
def v129 : AV := .agg [.int .i64 3, .int .i64 1, .int .i64 2, .int .i64 1, .bool false, .tree [], .str [99], .str []]
def v130 : AV := .tree [v129]
def v131 : AV := .agg [.int .i64 3, .int .i64 1, .int .i64 2, .int .i64 1]
def v132 : AV := .tree [v131]
def v133 : AV := .agg [.int .i64 2, .int .i64 3, .str [94, 98], v132, .tree [.int .i64 0, .int .i64 1]]
def v134 : AV := .tree [v15, v133]
def v135 : AV := .agg [.int .i64 2, .int .i64 2, .int .i64 1, .int .i64 1, .int .i64 6, v130, v134]
def e62 : Ent := ⟨115, [v96, .int .i64 3, .tree [], .str [99], .str []], [], ⟨.tuple [v135, v129, .int .i64 0], [], []⟩⟩
theorem e62_ok : e62.Ok Go.Proofs.Tryz.prog Tryz.phi := evIs_ok Tryz.envOk (l := [e48]) ⟨e48_ok, trivial⟩ (by kernel_rfl)
def v137 : AV := .agg [.int .i64 1, .int .i64 2, .int .i64 0, .int .i64 0, .int .i64 3, .tree [], .str [99], .str []]
def v138 : AV := .tree [v120, v135]
def v139 : AV := .tree [v102, v114, v129]
def v140 : AV := .agg [.int .i64 2, .int .i64 4, .tree [.agg [.int .i64 1, .int .i64 2]], v138, .tree [], v139]
def v141 : AV := .tuple [v140, .int .i64 0]
def e63 : Ent := ⟨53, [v124, v137], [], ⟨v141, [], []⟩⟩
theorem e63_ok : e63.Ok Go.Proofs.Tryz.prog Tryz.phi := evIs_ok Tryz.envOk (l := [e62]) ⟨e62_ok, trivial⟩ (by kernel_rfl)
def e64 : Ent := ⟨17, [v124, v137], [], ⟨v141, [], []⟩⟩
theorem e64_ok : e64.Ok Go.Proofs.Tryz.prog Tryz.phi := evIs_ok Tryz.envOk (l := [e63]) ⟨e63_ok, trivial⟩ (by kernel_rfl)
def v142 : AV := .tree [v104, v116, v131]
def v143 : AV := .cptr (v140)
def v144 : AV := .func 65 [] [v143]
def e65 : Ent := ⟨138, [v142, v144], [], ⟨.int .i64 (-1), [], []⟩⟩
theorem e65_ok : e65.Ok Go.Proofs.Tryz.prog Tryz.phi := evIs_ok Tryz.envOk (l := []) trivial (by kernel_rfl)
def e66 : Ent := ⟨64, [v142, v144], [], ⟨.bool false, [], []⟩⟩
theorem e66_ok : e66.Ok Go.Proofs.Tryz.prog Tryz.phi := evIs_ok Tryz.envOk (l := [e65]) ⟨e65_ok, trivial⟩ (by kernel_rfl)
def e67 : Ent := ⟨18, [v140], [], ⟨.bool true, [], []⟩⟩
theorem e67_ok : e67.Ok Go.Proofs.Tryz.prog Tryz.phi := evIs_ok Tryz.envOk (l := [e66]) ⟨e66_ok, trivial⟩ (by kernel_rfl)
def e68 : Ent := ⟨70, [v140, v120], [], ⟨.bool false, [], []⟩⟩
theorem e68_ok : e68.Ok Go.Proofs.Tryz.prog Tryz.phi := evIs_ok Tryz.envOk (l := []) trivial (by kernel_rfl)
def e69 : Ent := ⟨69, [v120, v143], [], ⟨.bool true, [], []⟩⟩
theorem e69_ok : e69.Ok Go.Proofs.Tryz.prog Tryz.phi := evIs_ok Tryz.envOk (l := [e68]) ⟨e68_ok, trivial⟩ (by kernel_rfl)
def v145 : AV := .func 69 [] [v143]
def e70 : Ent := ⟨139, [v138, v145], [], ⟨.int .i64 0, [], []⟩⟩
theorem e70_ok : e70.Ok Go.Proofs.Tryz.prog Tryz.phi := evIs_ok Tryz.envOk (l := [e69]) ⟨e69_ok, trivial⟩ (by kernel_rfl)
def e71 : Ent := ⟨66, [v138, v145], [], ⟨.bool true, [], []⟩⟩
theorem e71_ok : e71.Ok Go.Proofs.Tryz.prog Tryz.phi := evIs_ok Tryz.envOk (l := [e70]) ⟨e70_ok, trivial⟩ (by kernel_rfl)
def e72 : Ent := ⟨20, [v140], [], ⟨.bool false, [], []⟩⟩
theorem e72_ok : e72.Ok Go.Proofs.Tryz.prog Tryz.phi := evIs_ok Tryz.envOk (l := [e71]) ⟨e71_ok, trivial⟩ (by kernel_rfl)
def v146 : AV := .tree [v118]
def v147 : AV := .agg [.int .i64 1, .int .i64 2, v146, v115]
def e73 : Ent := ⟨41, [v120, .int .i64 2, .int .i64 4], [], ⟨.tuple [v147, .bool true], [], []⟩⟩
theorem e73_ok : e73.Ok Go.Proofs.Tryz.prog Tryz.phi := evIs_ok Tryz.envOk (l := []) trivial (by kernel_rfl)
def e74 : Ent := ⟨118, [v147, .int .i64 2], [], ⟨.bool true, [], []⟩⟩
theorem e74_ok : e74.Ok Go.Proofs.Tryz.prog Tryz.phi := evIs_ok Tryz.envOk (l := [e41]) ⟨e41_ok, trivial⟩ (by kernel_rfl)
def v150 : AV := .agg [.int .i64 2, .int .i64 4, .str [94, 98], v142, .tree [.int .i64 1, .int .i64 1]]
def v151 : AV := .tree [v118, v150]
def v152 : AV := .agg [.int .i64 2, .int .i64 2, .int .i64 2, .int .i64 1, .int .i64 6, v139, v151]
def e75 : Ent := ⟨137, [v152], [], ⟨v152, [], []⟩⟩
theorem e75_ok : e75.Ok Go.Proofs.Tryz.prog Tryz.phi := evIs_ok Tryz.envOk (l := [e48]) ⟨e48_ok, trivial⟩ (by kernel_rfl)
def e76 : Ent := ⟨59, [v135, v147], [], ⟨.tuple [v152, .int .i64 0], [], []⟩⟩
theorem e76_ok : e76.Ok Go.Proofs.Tryz.prog Tryz.phi := evIs_ok Tryz.envOk (l := [e48, e74, e75]) ⟨e48_ok, e74_ok, e75_ok, trivial⟩ (by kernel_rfl)
def v154 : AV := .tree [v120, v152]
def v155 : AV := .agg [.int .i64 2, .int .i64 4, .tree [.agg [.int .i64 1, .int .i64 2]], v154, .tree [], v139]
def e77 : Ent := ⟨40, [v140, .int .i64 1, .int .i64 2], [], ⟨v155, [], []⟩⟩
theorem e77_ok : e77.Ok Go.Proofs.Tryz.prog Tryz.phi := evIs_ok Tryz.envOk (l := [e73, e76]) ⟨e73_ok, e76_ok, trivial⟩ (by kernel_rfl)
def v156 : AV := .agg [.int .i64 2, .int .i64 1, v151, v130]
def e78 : Ent := ⟨41, [v152, .int .i64 1, .int .i64 4], [], ⟨.tuple [v156, .bool true], [], []⟩⟩
theorem e78_ok : e78.Ok Go.Proofs.Tryz.prog Tryz.phi := evIs_ok Tryz.envOk (l := []) trivial (by kernel_rfl)
def e79 : Ent := ⟨118, [v156, .int .i64 2], [], ⟨.bool true, [], []⟩⟩
theorem e79_ok : e79.Ok Go.Proofs.Tryz.prog Tryz.phi := evIs_ok Tryz.envOk (l := [e48]) ⟨e48_ok, trivial⟩ (by kernel_rfl)
def v159 : AV := .agg [.int .i64 1, .int .i64 5, .str [94, 97], v142, .tree [.int .i64 1, .int .i64 1]]
def v160 : AV := .tree [v159, v150]
def v162 : AV := .tree [v102, v129]
def v163 : AV := .agg [.int .i64 1, .int .i64 2, .int .i64 2, .int .i64 2, .int .i64 6, v162, v160]
def e80 : Ent := ⟨137, [.agg [.int .i64 1, .int .i64 2, .int .i64 2, .int .i64 2, .int .i64 6, v139, v160]], [], ⟨v163, [], []⟩⟩
theorem e80_ok : e80.Ok Go.Proofs.Tryz.prog Tryz.phi := evIs_ok Tryz.envOk (l := [e41, e48]) ⟨e41_ok, e48_ok, trivial⟩ (by kernel_rfl)
def v164 : AV := .tuple [v163, .int .i64 0]
def e81 : Ent := ⟨59, [v120, v156], [], ⟨v164, [], []⟩⟩
theorem e81_ok : e81.Ok Go.Proofs.Tryz.prog Tryz.phi := evIs_ok Tryz.envOk (l := [e41, e79, e80]) ⟨e41_ok, e79_ok, e80_ok, trivial⟩ (by kernel_rfl)
def v165 : AV := .tree [v163, v152]
def v166 : AV := .agg [.int .i64 2, .int .i64 4, .tree [.agg [.int .i64 1, .int .i64 2]], v165, .tree [], v139]
def e82 : Ent := ⟨40, [v155, .int .i64 2, .int .i64 1], [], ⟨v166, [], []⟩⟩
theorem e82_ok : e82.Ok Go.Proofs.Tryz.prog Tryz.phi := evIs_ok Tryz.envOk (l := [e78, e81]) ⟨e78_ok, e81_ok, trivial⟩ (by kernel_rfl)
def v168 : AV := .tree [v114, v129]
def v169 : AV := .agg [.int .i64 2, .int .i64 2, .int .i64 2, .int .i64 1, .int .i64 6, v168, v160]
def e83 : Ent := ⟨137, [.agg [.int .i64 2, .int .i64 2, .int .i64 2, .int .i64 1, .int .i64 6, v139, v160]], [], ⟨v169, [], []⟩⟩
theorem e83_ok : e83.Ok Go.Proofs.Tryz.prog Tryz.phi := evIs_ok Tryz.envOk (l := [e41, e48]) ⟨e41_ok, e48_ok, trivial⟩ (by kernel_rfl)
def v170 : AV := .agg [.int .i64 1, .int .i64 2, v160, .tree []]
def v171 : AV := .tuple [v169, .int .i64 0]
def e84 : Ent := ⟨59, [v152, v170], [], ⟨v171, [], []⟩⟩
theorem e84_ok : e84.Ok Go.Proofs.Tryz.prog Tryz.phi := evIs_ok Tryz.envOk (l := [e41, e83]) ⟨e41_ok, e83_ok, trivial⟩ (by kernel_rfl)
def v172 : AV := .tree [v163, v169]
def v173 : AV := .agg [.int .i64 2, .int .i64 4, .tree [.agg [.int .i64 1, .int .i64 2]], v172, .tree [], v139]
def e85 : Ent := ⟨40, [v166, .int .i64 1, .int .i64 2], [], ⟨v173, [], []⟩⟩
theorem e85_ok : e85.Ok Go.Proofs.Tryz.prog Tryz.phi := evIs_ok Tryz.envOk (l := [e84]) ⟨e84_ok, trivial⟩ (by kernel_rfl)
def e86 : Ent := ⟨137, [v163], [], ⟨v163, [], []⟩⟩
theorem e86_ok : e86.Ok Go.Proofs.Tryz.prog Tryz.phi := evIs_ok Tryz.envOk (l := [e41, e48]) ⟨e41_ok, e48_ok, trivial⟩ (by kernel_rfl)
def e87 : Ent := ⟨59, [v163, .agg [.int .i64 2, .int .i64 1, v160, .tree []]], [], ⟨v164, [], []⟩⟩
theorem e87_ok : e87.Ok Go.Proofs.Tryz.prog Tryz.phi := evIs_ok Tryz.envOk (l := [e86]) ⟨e86_ok, trivial⟩ (by kernel_rfl)
def e88 : Ent := ⟨40, [v173, .int .i64 2, .int .i64 1], [], ⟨v173, [], []⟩⟩
theorem e88_ok : e88.Ok Go.Proofs.Tryz.prog Tryz.phi := evIs_ok Tryz.envOk (l := [e87]) ⟨e87_ok, trivial⟩ (by kernel_rfl)
def e89 : Ent := ⟨21, [v140], [], ⟨v173, [], []⟩⟩
theorem e89_ok : e89.Ok Go.Proofs.Tryz.prog Tryz.phi := evIs_ok Tryz.envOk (l := [e77, e82, e85, e88]) ⟨e77_ok, e82_ok, e85_ok, e88_ok, trivial⟩ (by kernel_rfl)
def e90 : Ent := ⟨137, [v169], [], ⟨v169, [], []⟩⟩
theorem e90_ok : e90.Ok Go.Proofs.Tryz.prog Tryz.phi := evIs_ok Tryz.envOk (l := [e41, e48]) ⟨e41_ok, e48_ok, trivial⟩ (by kernel_rfl)
def e91 : Ent := ⟨59, [v169, v170], [], ⟨v171, [], []⟩⟩
theorem e91_ok : e91.Ok Go.Proofs.Tryz.prog Tryz.phi := evIs_ok Tryz.envOk (l := [e90]) ⟨e90_ok, trivial⟩ (by kernel_rfl)
def e92 : Ent := ⟨40, [v173, .int .i64 1, .int .i64 2], [], ⟨v173, [], []⟩⟩
theorem e92_ok : e92.Ok Go.Proofs.Tryz.prog Tryz.phi := evIs_ok Tryz.envOk (l := [e91]) ⟨e91_ok, trivial⟩ (by kernel_rfl)
def e93 : Ent := ⟨21, [v173], [], ⟨v173, [], []⟩⟩
theorem e93_ok : e93.Ok Go.Proofs.Tryz.prog Tryz.phi := evIs_ok Tryz.envOk (l := [e88, e92]) ⟨e88_ok, e92_ok, trivial⟩ (by kernel_rfl)
def e94 : Ent := ⟨73, [v173], [], ⟨v139, [], []⟩⟩
theorem e94_ok : e94.Ok Go.Proofs.Tryz.prog Tryz.phi := evIs_ok Tryz.envOk (l := []) trivial (by kernel_rfl)
def e95 : Ent := ⟨31, [v163], [], ⟨v159, [], []⟩⟩
theorem e95_ok : e95.Ok Go.Proofs.Tryz.prog Tryz.phi := evIs_ok Tryz.envOk (l := []) trivial (by kernel_rfl)
def e96 : Ent := ⟨101, [.ref (.inc 0) 0 0], [.box (.agg [v71, .int .i64 2]) true], ⟨.tuple [v73, .nili], [.box (.agg [.tree [], .int .i64 2]) true], []⟩⟩
theorem e96_ok : e96.Ok Go.Proofs.Tryz.prog Tryz.phi := evIs_ok Tryz.envOk (l := []) trivial (by kernel_rfl)
def v179 : AV := .str [97, 98, 99, 100, 101, 102, 103, 104, 105, 106, 107, 108, 109, 110, 111, 112, 113, 114, 115, 116, 117, 118, 119, 120, 121, 122]
def e97 : Ent := ⟨322, [v179], [], ⟨.tuple [.agg [.bool false, .bool false, .bool false, .bool false, .bool false, .bool false, .bool false, .bool false, .bool false, .bool false, .bool false, .bool false, .bool false, .bool false, .bool false, .bool false, .bool false, .bool false, .bool false, .bool false, .bool false, .bool false, .bool false, .bool false, .bool false, .bool false, .bool false, .bool false, .bool false, .bool false, .bool false, .bool false, .bool false, .bool false, .bool false, .bool false, .bool false, .bool false, .bool false, .bool false, .bool false, .bool false, .bool false, .bool false, .bool false, .bool false, .bool false, .bool false, .bool false, .bool false, .bool false, .bool false, .bool false, .bool false, .bool false, .bool false, .bool false, .bool false, .bool false, .bool false, .bool false, .bool false, .bool false, .bool false, .bool false, .bool false, .bool false, .bool false, .bool false, .bool false, .bool false, .bool false, .bool false, .bool false, .bool false, .bool false, .bool false, .bool false, .bool false, .bool false, .bool false, .bool false, .bool false, .bool false, .bool false, .bool false, .bool false, .bool false, .bool false, .bool false, .bool false, .bool false, .bool false, .bool false, .bool false, .bool false, .bool false, .bool true, .bool true, .bool true, .bool true, .bool true, .bool true, .bool true, .bool true, .bool true, .bool true, .bool true, .bool true, .bool true, .bool true, .bool true, .bool true, .bool true, .bool true, .bool true, .bool true, .bool true, .bool true, .bool true, .bool true, .bool true, .bool true, .bool false, .bool false, .bool false, .bool false, .bool false, .bool false, .bool false, .bool false, .bool false, .bool false, .bool false, .bool false, .bool false, .bool false, .bool false, .bool false, .bool false, .bool false, .bool false, .bool false, .bool false, .bool false, .bool false, .bool false, .bool false, .bool false, .bool false, .bool false, .bool false, .bool false, .bool false, .bool false, .bool false, .bool false, .bool false, .bool false, .bool false, .bool false, .bool false, .bool false, .bool false, .bool false, .bool false, .bool false, .bool false, .bool false, .bool false, .bool false, .bool false, .bool false, .bool false, .bool false, .bool false, .bool false, .bool false, .bool false, .bool false, .bool false, .bool false, .bool false, .bool false, .bool false, .bool false, .bool false, .bool false, .bool false, .bool false, .bool false, .bool false, .bool false, .bool false, .bool false, .bool false, .bool false, .bool false, .bool false, .bool false, .bool false, .bool false, .bool false, .bool false, .bool false, .bool false, .bool false, .bool false, .bool false, .bool false, .bool false, .bool false, .bool false, .bool false, .bool false, .bool false, .bool false, .bool false, .bool false, .bool false, .bool false, .bool false, .bool false, .bool false, .bool false, .bool false, .bool false, .bool false, .bool false, .bool false, .bool false, .bool false, .bool false, .bool false, .bool false, .bool false, .bool false, .bool false, .bool false, .bool false, .bool false, .bool false, .bool false, .bool false, .bool false, .bool false, .bool false, .bool false, .bool false, .bool false, .bool false, .bool false, .bool false, .bool false, .bool false, .bool false], .bool true], [], []⟩⟩
theorem e97_ok : e97.Ok Go.Proofs.Tryz.prog Tryz.phi := evIs_ok Tryz.envOk (l := []) trivial (by kernel_rfl)
def e98 : Ent := ⟨296, [.str [97], v179], [], ⟨.str [], [], []⟩⟩
theorem e98_ok : e98.Ok Go.Proofs.Tryz.prog Tryz.phi := evIs_ok Tryz.envOk (l := [e97]) ⟨e97_ok, trivial⟩ (by kernel_rfl)
def e99 : Ent := ⟨289, [.str [97]], [], ⟨.bool true, [], []⟩⟩
theorem e99_ok : e99.Ok Go.Proofs.Tryz.prog Tryz.phi := evIs_ok Tryz.envOk (l := [e98]) ⟨e98_ok, trivial⟩ (by kernel_rfl)
def e100 : Ent := ⟨254, [v73], [], ⟨.bool true, [], []⟩⟩
theorem e100_ok : e100.Ok Go.Proofs.Tryz.prog Tryz.phi := evIs_ok Tryz.envOk (l := [e99]) ⟨e99_ok, trivial⟩ (by kernel_rfl)
def e101 : Ent := ⟨195, [v73, .int .i64 6], [], ⟨.bool true, [], []⟩⟩
theorem e101_ok : e101.Ok Go.Proofs.Tryz.prog Tryz.phi := evIs_ok Tryz.envOk (l := [e100]) ⟨e100_ok, trivial⟩ (by kernel_rfl)
def e102 : Ent := ⟨102, [v73], [], ⟨.bool true, [], []⟩⟩
theorem e102_ok : e102.Ok Go.Proofs.Tryz.prog Tryz.phi := evIs_ok Tryz.envOk (l := [e101]) ⟨e101_ok, trivial⟩ (by kernel_rfl)
def e103 : Ent := ⟨38, [.str [94, 97]], [], ⟨v76, [], []⟩⟩
theorem e103_ok : e103.Ok Go.Proofs.Tryz.prog Tryz.phi := evIs_ok Tryz.envOk (l := [e96, e102]) ⟨e96_ok, e102_ok, trivial⟩ (by kernel_rfl)
def e104 : Ent := ⟨49, [v163], [], ⟨v73, [], []⟩⟩
theorem e104_ok : e104.Ok Go.Proofs.Tryz.prog Tryz.phi := evIs_ok Tryz.envOk (l := [e95, e103]) ⟨e95_ok, e103_ok, trivial⟩ (by kernel_rfl)
def e105 : Ent := ⟨22, [v173, .int .i64 1], [], ⟨v103, [], []⟩⟩
theorem e105_ok : e105.Ok Go.Proofs.Tryz.prog Tryz.phi := evIs_ok Tryz.envOk (l := [e94, e104]) ⟨e94_ok, e104_ok, trivial⟩ (by kernel_rfl)
def e106 : Ent := ⟨254, [v89], [], ⟨.bool true, [], []⟩⟩
theorem e106_ok : e106.Ok Go.Proofs.Tryz.prog Tryz.phi := evIs_ok Tryz.envOk (l := [e97]) ⟨e97_ok, trivial⟩ (by kernel_rfl)
def e107 : Ent := ⟨195, [v89, .int .i64 6], [], ⟨.bool true, [], []⟩⟩
theorem e107_ok : e107.Ok Go.Proofs.Tryz.prog Tryz.phi := evIs_ok Tryz.envOk (l := [e106]) ⟨e106_ok, trivial⟩ (by kernel_rfl)
def e108 : Ent := ⟨102, [v89], [], ⟨.bool true, [], []⟩⟩
theorem e108_ok : e108.Ok Go.Proofs.Tryz.prog Tryz.phi := evIs_ok Tryz.envOk (l := [e107]) ⟨e107_ok, trivial⟩ (by kernel_rfl)
def e109 : Ent := ⟨38, [.str [94, 98]], [], ⟨v92, [], []⟩⟩
theorem e109_ok : e109.Ok Go.Proofs.Tryz.prog Tryz.phi := evIs_ok Tryz.envOk (l := [e108]) ⟨e108_ok, trivial⟩ (by kernel_rfl)
def e110 : Ent := ⟨49, [v169], [], ⟨v89, [], []⟩⟩
theorem e110_ok : e110.Ok Go.Proofs.Tryz.prog Tryz.phi := evIs_ok Tryz.envOk (l := [e109]) ⟨e109_ok, trivial⟩ (by kernel_rfl)
def e111 : Ent := ⟨23, [v173, .int .i64 2], [], ⟨.tree [v114], [], []⟩⟩
theorem e111_ok : e111.Ok Go.Proofs.Tryz.prog Tryz.phi := evIs_ok Tryz.envOk (l := [e110]) ⟨e110_ok, trivial⟩ (by kernel_rfl)
def v183 : AV := .cptr (v142)
def v184 : AV := .cptr (v173)
def v185 : AV := .func 142 [] [v183, v184]
def e112 : Ent := ⟨214, [v130, v185], [], ⟨.int .i64 (-1), [], []⟩⟩
theorem e112_ok : e112.Ok Go.Proofs.Tryz.prog Tryz.phi := evIs_ok Tryz.envOk (l := [e104, e110]) ⟨e104_ok, e110_ok, trivial⟩ (by kernel_rfl)
def e113 : Ent := ⟨141, [v130, v185], [], ⟨.bool false, [], []⟩⟩
theorem e113_ok : e113.Ok Go.Proofs.Tryz.prog Tryz.phi := evIs_ok Tryz.envOk (l := [e112]) ⟨e112_ok, trivial⟩ (by kernel_rfl)
def e114 : Ent := ⟨70, [v173, v163], [], ⟨.bool true, [], []⟩⟩
theorem e114_ok : e114.Ok Go.Proofs.Tryz.prog Tryz.phi := evIs_ok Tryz.envOk (l := [e95, e104, e105, e113]) ⟨e95_ok, e104_ok, e105_ok, e113_ok, trivial⟩ (by kernel_rfl)
def e115 : Ent := ⟨69, [v163, v184], [], ⟨.bool false, [], []⟩⟩
theorem e115_ok : e115.Ok Go.Proofs.Tryz.prog Tryz.phi := evIs_ok Tryz.envOk (l := [e114]) ⟨e114_ok, trivial⟩ (by kernel_rfl)
def e116 : Ent := ⟨70, [v173, v169], [], ⟨.bool true, [], []⟩⟩
theorem e116_ok : e116.Ok Go.Proofs.Tryz.prog Tryz.phi := evIs_ok Tryz.envOk (l := [e94, e110, e113]) ⟨e94_ok, e110_ok, e113_ok, trivial⟩ (by kernel_rfl)
def e117 : Ent := ⟨69, [v169, v184], [], ⟨.bool false, [], []⟩⟩
theorem e117_ok : e117.Ok Go.Proofs.Tryz.prog Tryz.phi := evIs_ok Tryz.envOk (l := [e116]) ⟨e116_ok, trivial⟩ (by kernel_rfl)
def v186 : AV := .func 69 [] [v184]
def e118 : Ent := ⟨139, [v172, v186], [], ⟨.int .i64 (-1), [], []⟩⟩
theorem e118_ok : e118.Ok Go.Proofs.Tryz.prog Tryz.phi := evIs_ok Tryz.envOk (l := [e115, e117]) ⟨e115_ok, e117_ok, trivial⟩ (by kernel_rfl)
def e119 : Ent := ⟨66, [v172, v186], [], ⟨.bool false, [], []⟩⟩
theorem e119_ok : e119.Ok Go.Proofs.Tryz.prog Tryz.phi := evIs_ok Tryz.envOk (l := [e118]) ⟨e118_ok, trivial⟩ (by kernel_rfl)
def e120 : Ent := ⟨20, [v173], [], ⟨.bool true, [], []⟩⟩
theorem e120_ok : e120.Ok Go.Proofs.Tryz.prog Tryz.phi := evIs_ok Tryz.envOk (l := [e119]) ⟨e119_ok, trivial⟩ (by kernel_rfl)
def e121 : Ent := ⟨5, [], [], ⟨.bool true, [], []⟩⟩
theorem e121_ok : e121.Ok Go.Proofs.Tryz.prog Tryz.phi := evIs_ok Tryz.envOk (l := [e0, e37, e44, e51, e54, e58, e61, e64, e67, e72, e89, e93, e105, e111, e120]) ⟨e0_ok, e37_ok, e44_ok, e51_ok, e54_ok, e58_ok, e61_ok, e64_ok, e67_ok, e72_ok, e89_ok, e93_ok, e105_ok, e111_ok, e120_ok, trivial⟩ (by kernel_rfl)
theorem root : SoundCall Go.Proofs.Tryz.prog Tryz.phi 5 [] [] ⟨.bool true, [], []⟩ := e121_ok
end Go.Ab.goalForms
