/- A part of the run. -/
import Derived.Test.YtmpdeifdnbhdiaaGreatDoorS2
namespace Go.Proofs.YtmpdeifdnbhdiaaGreatDoor
open Go.Cm
theorem IF:tZ Tryz.prog fP sB 100000 (jK cb) 5 189 KA Gx Ii (ids []) (ids [])=some (.mk .gj jH cP dK .nil):=by kernel_rfl
theorem IG:tZ Tryz.prog fP sB 100000 (jK (al cb)) 5 189 jH cP dK (ids [2]) (ids [])=some (.mk .gj zD nH qY .nil):=by kernel_rfl
theorem IH:tZ Tryz.prog fP sB 100000 (jK (al (al cb))) 5 189 zD nH qY (ids [2,4]) (ids [])=some (.mk .gj JI JJ JK .nil):=by kernel_rfl
theorem II:tZ Tryz.prog fP sB 100000 (jK (al (al (al cb)))) 5 189 JI JJ JK (ids [2,4,5,6]) (ids [15])=some (.mk .gj JL JM JN .nil):=by kernel_rfl
theorem IJ:tZ Tryz.prog fP sB 100000 (jK (al (al (al (al cb))))) 5 189 JL JM JN (ids [2,4,5,6,7,8]) (ids [15,17,18])=some (.mk .gj JO JP JQ .nil):=by kernel_rfl
theorem IK:tZ Tryz.prog fP sB 100000 (jK (al (al (al (al (al cb)))))) 5 189 JO JP JQ (ids [2,4,5,6,7,8,9]) (ids [15,17,18,19,20])=some (.mk .gj JR JS JT .nil):=by kernel_rfl
theorem IL:tZ Tryz.prog fP sB 100000 (jK (al (al (al (al (al (al cb))))))) 5 189 JR JS JT (ids [2,4,5,6,7,8,9,10]) (ids [15,17,18,19,20,21])=some (.mk .gj JU Ij JV .nil):=by kernel_rfl
theorem IM:tZ Tryz.prog fP sB 100000 (jK (al (al (al (al (al (al (al cb)))))))) 5 189 JU Ij JV (ids [2,4,5,6,7,8,9,10,13]) (ids [15,17,18,19,20,21])=some (.mk .gj JW JX JY .nil):=by kernel_rfl
theorem IN:tZ Tryz.prog fP sB 100000 (jK (al (al (al (al (al (al (al (al cb))))))))) 5 189 JW JX JY (ids [2,4,5,6,7,8,9,10,13,14]) (ids [15,17,18,19,20,21,193])=some (.mk .gj IQ JZ J0 .nil):=by kernel_rfl
theorem IP:tZ Tryz.prog fP sB 100000 (jK (al (al (al (al (al (al (al (al (al cb)))))))))) 5 189 IQ JZ J0 (ids [2,4,5,6,7,8,9,10,13,14]) (ids [15,17,18,19,20,21,193])=some (.mk .gj Gy Gz GA .nil):=by kernel_rfl
theorem Gs:tZ Tryz.prog fP sB 100000 (jK (al (al (al (al (al (al (al (al (al (al cb))))))))))) 5 189 Gy Gz GA (ids [2,4,5,6,7,8,9,10,13,16]) (ids [15,17,18,19,20,21])=some (.mk .gj GB GC GD .nil):=by kernel_rfl
theorem Gt:tZ Tryz.prog fP sB 100000 (jK (al (al (al (al (al (al (al (al (al (al (al cb)))))))))))) 5 189 GB GC GD (ids [2,4,5,6,7,8,9,10,13,16,17,18]) (ids [15,17,18,19,20,21,1063,1065])=some (.mk .gj GF GG GH .nil):=by kernel_rfl
theorem Gu:tZ Tryz.prog fP sB 100000 (jK (al (al (al (al (al (al (al (al (al (al (al (al cb))))))))))))) 5 189 GF GG GH (ids [2,4,5,6,7,8,9,13,16,17,18,19,20,21]) (ids [15,17,18,19,20,1063,1065,1738,1740,1895,1980,2119,2197,2327,2405,2535,2606,2736,2842,2972,3092,3239,3317,3320,3322,3323])=some (.mk .gj GI CA GJ .nil):=by kernel_rfl
theorem Gv:tZ Tryz.prog fP sB 100000 (jK (al (al (al (al (al (al (al (al (al (al (al (al (al cb)))))))))))))) 5 189 GI CA GJ (ids [2,4,5,6,7,8,9,13,16,17,18,19,20,21,23]) (ids [15,17,18,19,20,1063,1065,1738,1740,1895,1980,2119,2197,2327,2405,2535,2606,2736,2842,2972,3092,3239,3317,3320,3322,3323])=some (.mk .gj GK GM GN .nil):=by kernel_rfl
theorem Gw:tZ Tryz.prog fP sB 100000 (jK (al (al (al (al (al (al (al (al (al (al (al (al (al (al cb))))))))))))))) 5 189 GK GM GN (ids [5,7,8,9,17,19,20]) (ids [15,17,18,19,20,1063,1065,1738,1740,1895,1980,2119,2197,2327,2405,2535,2606,2736,2842,2972,3092,3239,3317,3320,3322,3323])=some (.mk .gj GO GP GQ .nil):=by kernel_rfl
end Go.Proofs.YtmpdeifdnbhdiaaGreatDoor
