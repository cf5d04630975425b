/- Calls without memory that the run makes, and what they give. -/
import Derived.Test.YtjabllhapfphoaaGreatDoorS5
namespace Go.Proofs.YtjabllhapfphoaaGreatDoor
open Go.Cm
theorem Lt:vq Tryz.prog kZ z5 100000 24 (.cons (dg [246,144,232,20,243,238,101,68,130,121,249,226,79,232,249,201,169,38,197,72,202,76,38,232,58,151,175,118,76,253,195,24]) .nil) (dg [172,126,139,253,181,3,129,27,141,89,3,17,203,71,181,162,8,255,40,67,45,156,243,56,17,27,98,23,244,166,22,63])=true:=by kernel_rfl
theorem KI:gv Tryz.prog kZ JI:=jH rJ cY Lt
theorem Lu:vq Tryz.prog kZ z5 100000 24 (.cons (dg [69,226,166,129,44,234,98,165,6,9,97,1,167,33,45,66,60,55,17,97,113,252,147,119,22,191,233,36,187,245,173,10]) .nil) (dg [82,7,60,37,183,143,24,211,196,176,154,43,177,59,250,71,216,124,9,23,129,242,173,194,14,70,185,62,16,65,225,252])=true:=by kernel_rfl
theorem KJ:gv Tryz.prog kZ JJ:=jH rJ cY Lu
theorem Lv:vq Tryz.prog kZ z5 100000 24 (.cons (dg [18,212,97,189,56,218,71,239,206,0,255,231,195,184,81,112,146,188,30,39,226,18,160,215,249,251,71,140,34,84,98,35]) .nil) (dg [22,176,12,148,76,189,22,27,248,146,76,144,106,197,174,153,79,121,215,127,214,79,206,180,163,143,36,108,247,170,64,159])=true:=by kernel_rfl
theorem KK:gv Tryz.prog kZ JK:=jH rJ cY Lv
theorem Lw:vq Tryz.prog kZ z5 100000 24 (.cons (dg [206,241,91,132,117,183,99,233,127,112,111,239,155,148,176,49,189,139,167,163,243,84,49,85,138,220,21,102,215,221,11,205]) .nil) (dg [206,178,211,211,70,22,120,238,212,109,15,193,144,128,234,240,175,30,141,107,137,91,189,125,130,137,134,115,113,94,187,153])=true:=by kernel_rfl
theorem KL:gv Tryz.prog kZ JL:=jH rJ cY Lw
theorem Lx:vq Tryz.prog kZ z5 100000 24 (.cons (dg [202,188,21,150,159,100,121,231,47,121,13,152,52,178,242,196,12,228,20,47,221,136,103,162,48,194,95,9,159,126,104,84]) .nil) (dg [180,162,247,97,205,183,124,95,55,123,18,170,251,175,239,93,111,174,223,101,217,250,13,99,254,27,199,117,180,204,232,6])=true:=by kernel_rfl
theorem KM:gv Tryz.prog kZ JM:=jH rJ cY Lx
theorem Ly:vq Tryz.prog kZ z5 100000 24 (.cons (dg [137,119,188,208,39,117,247,40,60,28,55,198,96,218,71,247,100,29,65,32,43,155,28,213,10,71,21,97,144,237,19,184]) .nil) (dg [73,177,131,91,86,131,36,61,202,69,67,123,155,82,45,12,238,20,121,25,122,68,66,191,157,217,153,233,127,246,101,191])=true:=by kernel_rfl
theorem KN:gv Tryz.prog kZ JN:=jH rJ cY Ly
theorem Lz:vq Tryz.prog kZ z5 100000 24 (.cons (dg [9,0,0,0,0,0,0,0,0,0,0,0,0,0,0,0,0,0,0,0,0,0,0,0,0,0,0,0,0,0,0,0]) .nil) (dg [139,205,228,178,155,69,37,151,78,142,146,61,152,165,77,235,163,27,86,31,227,235,70,239,123,56,239,234,92,157,116,27])=true:=by kernel_rfl
theorem KO:gv Tryz.prog kZ JO:=jH rJ cY Lz
theorem LA:vq Tryz.prog kZ z5 100000 24 (.cons (dg [4,0,0,0,0,0,0,0,0,0,0,0,0,0,0,0,0,0,0,0,0,0,0,0,0,0,0,0,0,0,0,0]) .nil) (dg [223,156,47,17,167,95,123,181,191,31,221,98,244,130,185,28,72,27,42,130,83,48,2,105,69,158,229,65,49,159,174,15])=true:=by kernel_rfl
theorem KP:gv Tryz.prog kZ JP:=jH rJ cY LA
theorem JR:tX Tryz.prog kZ Gb:=vY rJ (by
 intro e he
 simp only[List.mem_cons,List.not_mem_nil,or_false] at he
 rcases he with rfl|rfl|rfl|rfl|rfl|rfl|rfl|rfl
 ·exact KI
 ·exact KJ
 ·exact KK
 ·exact KL
 ·exact KM
 ·exact KN
 ·exact KO
 ·exact KP)
theorem LB:vq Tryz.prog kZ Gb 100000 20 (.cons (dg [1,0,0,0,0,0,0,0,0,0,0,0,0,0,0,0,0,0,0,0,0,0,0,0,0,0,0,0,0,0,0,0]) (.cons (.i .i64 (.ofNat 6)) .nil)) (.c8 (.cons (dg [192,150,2,174,111,38,196,107,123,9,75,28,150,65,126,58,193,16,157,27,200,81,60,188,105,216,42,5,148,221,235,49]) (.cons (.i .i64 (.ofNat 0)) .nil)))=true:=by kernel_rfl
theorem LC:gv Tryz.prog kZ KH:=jH JR cY LB
theorem tW:tX Tryz.prog kZ xu:=vY rJ (by
 intro e he
 simp only[List.mem_cons,List.not_mem_nil,or_false] at he
 rcases he with rfl|rfl|rfl|rfl|rfl|rfl|rfl|rfl|rfl
 ·exact KI
 ·exact KJ
 ·exact KK
 ·exact KL
 ·exact KM
 ·exact KN
 ·exact KO
 ·exact KP
 ·exact LC)
end Go.Proofs.YtjabllhapfphoaaGreatDoor
