/- A part of the run. -/
import Derived.Test.YtmpdeifdnbhdiaaGreatDoorS2
namespace Go.Proofs.YtmpdeifdnbhdiaaGreatDoor
open Go.Cm
theorem OD:vO Tryz.prog gw sK 100000 (kg cb) 5 189 QX KW N4 (ids []) (ids [])=some (.mk .gH j8 cX ei .nil):=by kernel_rfl
theorem OE:vO Tryz.prog gw sK 100000 (kg (an cb)) 5 189 j8 cX ei (ids [2]) (ids [])=some (.mk .gH Be nC sB .nil):=by kernel_rfl
theorem OF:vO Tryz.prog gw sK 100000 (kg (an (an cb))) 5 189 Be nC sB (ids [2,4]) (ids [])=some (.mk .gH PX PY PZ .nil):=by kernel_rfl
theorem OG:vO Tryz.prog gw sK 100000 (kg (an (an (an cb)))) 5 189 PX PY PZ (ids [2,4,5,6]) (ids [15])=some (.mk .gH P0 P3 P4 .nil):=by kernel_rfl
theorem OH:vO Tryz.prog gw sK 100000 (kg (an (an (an (an cb))))) 5 189 P0 P3 P4 (ids [2,4,5,6,7,8]) (ids [15,17,18])=some (.mk .gH P5 P6 P7 .nil):=by kernel_rfl
theorem OI:vO Tryz.prog gw sK 100000 (kg (an (an (an (an (an cb)))))) 5 189 P5 P6 P7 (ids [2,4,5,6,7,8,9]) (ids [15,17,18,19,20])=some (.mk .gH P8 P9 Qa .nil):=by kernel_rfl
theorem OJ:vO Tryz.prog gw sK 100000 (kg (an (an (an (an (an (an cb))))))) 5 189 P8 P9 Qa (ids [2,4,5,6,7,8,9,10]) (ids [15,17,18,19,20,21])=some (.mk .gH Qb N5 Qc .nil):=by kernel_rfl
theorem OK:vO Tryz.prog gw sK 100000 (kg (an (an (an (an (an (an (an cb)))))))) 5 189 Qb N5 Qc (ids [2,4,5,6,7,8,9,10,13]) (ids [15,17,18,19,20,21])=some (.mk .gH Qd Qe Qf .nil):=by kernel_rfl
theorem OL:vO Tryz.prog gw sK 100000 (kg (an (an (an (an (an (an (an (an cb))))))))) 5 189 Qd Qe Qf (ids [2,4,5,6,7,8,9,10,13,14]) (ids [15,17,18,19,20,21,193])=some (.mk .gH ON Qg Qh .nil):=by kernel_rfl
theorem OM:vO Tryz.prog gw sK 100000 (kg (an (an (an (an (an (an (an (an (an cb)))))))))) 5 189 ON Qg Qh (ids [2,4,5,6,7,8,9,10,13,14]) (ids [15,17,18,19,20,21,193])=some (.mk .gH KX KY KZ .nil):=by kernel_rfl
theorem KQ:vO Tryz.prog gw sK 100000 (kg (an (an (an (an (an (an (an (an (an (an cb))))))))))) 5 189 KX KY KZ (ids [2,4,5,6,7,8,9,10,13,16]) (ids [15,17,18,19,20,21])=some (.mk .gH K0 K1 K2 .nil):=by kernel_rfl
theorem KR:vO Tryz.prog gw sK 100000 (kg (an (an (an (an (an (an (an (an (an (an (an cb)))))))))))) 5 189 K0 K1 K2 (ids [2,4,5,6,7,8,9,10,13,16,17,18]) (ids [15,17,18,19,20,21,1063,1065])=some (.mk .gH K3 K4 K5 .nil):=by kernel_rfl
theorem KS:vO Tryz.prog gw sK 100000 (kg (an (an (an (an (an (an (an (an (an (an (an (an cb))))))))))))) 5 189 K3 K4 K5 (ids [2,4,5,6,7,8,9,13,16,17,18,19,20,21]) (ids [15,17,18,19,20,1063,1065,1738,1740,1895,1980,2119,2197,2327,2405,2535,2606,2736,2842,2972,3092,3239,3317,3320,3322,3323])=some (.mk .gH K6 En K7 .nil):=by kernel_rfl
theorem KT:vO Tryz.prog gw sK 100000 (kg (an (an (an (an (an (an (an (an (an (an (an (an (an cb)))))))))))))) 5 189 K6 En K7 (ids [2,4,5,6,7,8,9,13,16,17,18,19,20,21,23]) (ids [15,17,18,19,20,1063,1065,1738,1740,1895,1980,2119,2197,2327,2405,2535,2606,2736,2842,2972,3092,3239,3317,3320,3322,3323])=some (.mk .gH K8 K9 La .nil):=by kernel_rfl
theorem KU:vO Tryz.prog gw sK 100000 (kg (an (an (an (an (an (an (an (an (an (an (an (an (an (an cb))))))))))))))) 5 189 K8 K9 La (ids [5,7,8,9,17,19,20]) (ids [15,17,18,19,20,1063,1065,1738,1740,1895,1980,2119,2197,2327,2405,2535,2606,2736,2842,2972,3092,3239,3317,3320,3322,3323])=some (.mk .gH Lb Lc Ld .nil):=by kernel_rfl
end Go.Proofs.YtmpdeifdnbhdiaaGreatDoor
