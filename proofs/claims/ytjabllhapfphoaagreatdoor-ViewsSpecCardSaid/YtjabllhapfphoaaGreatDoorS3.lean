/- A part of the run. -/
import Derived.Test.YtjabllhapfphoaaGreatDoorS2
namespace Go.Proofs.YtjabllhapfphoaaGreatDoor
open Go.Cm
theorem IX:CO Tryz.prog kZ xu 100000 (rL cb) 5 241 KY Kc KZ (ids []) (ids [])=some (.mk .iF jZ du eo .nil):=by kernel_rfl
theorem IY:CO Tryz.prog kZ xu 100000 (rL (bD cb)) 5 241 jZ du eo (ids [1,3]) (ids [144,146,148,281,282])=some (.mk .iF Ax ov rS .nil):=by kernel_rfl
theorem IZ:CO Tryz.prog kZ xu 100000 (rL (bD (bD cb))) 5 241 Ax ov rS (ids [1,3,4]) (ids [144,146,148,281,282,283])=some (.mk .iF Kd Ke Kf .nil):=by kernel_rfl
theorem I0:CO Tryz.prog kZ xu 100000 (rL (bD (bD (bD cb)))) 5 241 Kd Ke Kf (ids [1,3,4,5,6]) (ids [144,146,148,281,282,283,284])=some (.mk .iF Kg Kh Ki .nil):=by kernel_rfl
theorem I1:CO Tryz.prog kZ xu 100000 (rL (bD (bD (bD (bD cb))))) 5 241 Kg Kh Ki (ids [1,3,4,6,7]) (ids [144,146,148,281,282,283,285])=some (.mk .iF Kj Kk Kl .nil):=by kernel_rfl
theorem I2:CO Tryz.prog kZ xu 100000 (rL (bD (bD (bD (bD (bD cb)))))) 5 241 Kj Kk Kl (ids [1,3,4,6,7,8]) (ids [144,146,148,281,282,283,285,286,287])=some (.mk .iF Km Kn Ko .nil):=by kernel_rfl
theorem I3:CO Tryz.prog kZ xu 100000 (rL (bD (bD (bD (bD (bD (bD cb))))))) 5 241 Km Kn Ko (ids [1,3,4,6,7,8,9,10]) (ids [144,146,148,281,282,283,285,286,287,288,289,290,291])=some (.mk .iF Kp Kq Kr .nil):=by kernel_rfl
theorem I4:CO Tryz.prog kZ xu 100000 (rL (bD (bD (bD (bD (bD (bD (bD cb)))))))) 5 241 Kp Kq Kr (ids [1,3,4,6,8,9,10,11,12]) (ids [144,146,148,281,282,283,286,287,288,289,290,291,692,1282,1285,1287,2470,2472,2473])=some (.mk .iF Ks Kt Ku .nil):=by kernel_rfl
end Go.Proofs.YtjabllhapfphoaaGreatDoor
