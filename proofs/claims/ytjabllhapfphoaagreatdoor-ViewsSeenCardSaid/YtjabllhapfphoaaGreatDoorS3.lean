/- A part of the run. -/
import Derived.Test.YtjabllhapfphoaaGreatDoorS2
namespace Go.Proofs.YtjabllhapfphoaaGreatDoor
open Go.Cm
theorem seg0 : seg Tryz.prog glX hk2 100000 (fstC cb) 5 241 tm0 hp0 nx0 (ids []) (ids []) = some (.mk .nrm tm1 hp1 nx1 .nil) := by kernel_rfl
theorem seg1 : seg Tryz.prog glX hk2 100000 (fstC (sndC cb)) 5 241 tm1 hp1 nx1 (ids [1, 3]) (ids [144, 146, 148, 281, 282]) = some (.mk .nrm tm2 hp2 nx2 .nil) := by kernel_rfl
theorem seg2 : seg Tryz.prog glX hk2 100000 (fstC (sndC (sndC cb))) 5 241 tm2 hp2 nx2 (ids [1, 3, 4]) (ids [144, 146, 148, 281, 282, 283]) = some (.mk .nrm tm3 hp3 nx3 .nil) := by kernel_rfl
theorem seg3 : seg Tryz.prog glX hk2 100000 (fstC (sndC (sndC (sndC cb)))) 5 241 tm3 hp3 nx3 (ids [1, 3, 4, 5, 6]) (ids [144, 146, 148, 281, 282, 283, 284]) = some (.mk .nrm tm4 hp4 nx4 .nil) := by kernel_rfl
theorem seg4 : seg Tryz.prog glX hk2 100000 (fstC (sndC (sndC (sndC (sndC cb))))) 5 241 tm4 hp4 nx4 (ids [1, 3, 4, 6, 7]) (ids [144, 146, 148, 281, 282, 283, 285]) = some (.mk .nrm tm5 hp5 nx5 .nil) := by kernel_rfl
theorem seg5 : seg Tryz.prog glX hk2 100000 (fstC (sndC (sndC (sndC (sndC (sndC cb)))))) 5 241 tm5 hp5 nx5 (ids [1, 3, 4, 6, 7, 8]) (ids [144, 146, 148, 281, 282, 283, 285, 286, 287]) = some (.mk .nrm tm6 hp6 nx6 .nil) := by kernel_rfl
theorem seg6 : seg Tryz.prog glX hk2 100000 (fstC (sndC (sndC (sndC (sndC (sndC (sndC cb))))))) 5 241 tm6 hp6 nx6 (ids [1, 3, 4, 6, 7, 8, 9, 10]) (ids [144, 146, 148, 281, 282, 283, 285, 286, 287, 288, 289, 290, 291]) = some (.mk .nrm tm7 hp7 nx7 .nil) := by kernel_rfl
theorem seg7 : seg Tryz.prog glX hk2 100000 (fstC (sndC (sndC (sndC (sndC (sndC (sndC (sndC cb)))))))) 5 241 tm7 hp7 nx7 (ids [1, 3, 4, 6, 8, 9, 10, 11, 12]) (ids [144, 146, 148, 281, 282, 283, 286, 287, 288, 289, 290, 291, 692, 1282, 1285, 1287, 2470, 2472, 2473]) = some (.mk .nrm tm8 hp8 nx8 .nil) := by kernel_rfl

end Go.Proofs.YtjabllhapfphoaaGreatDoor
