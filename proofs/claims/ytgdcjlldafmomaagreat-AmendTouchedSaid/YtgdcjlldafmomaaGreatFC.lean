/- part -/
import Derived.Test.YtgdcjlldafmomaaGreatUP
noncomputable section
namespace Go.Proofs.YtgdcjlldafmomaaGreat
open Go.Ax
def gZ:Nat→fG×fG×Int×Lb×ZG→Option (cQ (fG×fG×Int×Lb×ZG) (cQ (fG×fG×Int×ZG) (cQ ZG ZG))):=aK fun rec7 ⟨b,c,a,e,d⟩=>if 0≤a then(if a<(1024:Int) then(if 0≤a then(if a<(1024:Int) then(if(!decide ((nth (.int .i64) b a)=(nth (.int .i64) c a)))=true then(if(decide ((aZ (a+1))=(1024:Int)))=true then(if(List.length d+List.length [(e.1,aZ (a+1),e.2.2)])*16≤aE then(bZ (bZ (some (.brk (d++[(e.1,aZ (a+1),e.2.2)]))))) else none) else(rec7 (b,c,aZ (a+1),(e.1,aZ (a+1),e.2.2),d))) else(some (.brk (b,c,a,e,d)))) else none) else none) else none) else none
def jc:Nat→fG×fG×Int×ZG→Option (cQ ZG ZG):=aK fun acK ⟨k,l,j,m⟩=>if(decide (j<(1024:Int)))=true then(aG (U:=fG×fG×Int×ZG) (if 0≤j then(if j<(1024:Int) then(if 0≤j then(if j<(1024:Int) then(if(decide ((nth (.int .i64) k j)=(nth (.int .i64) l j)))=true then(some (.brk (k,l,aZ (j+1),m))) else(aG (U:=fG×fG×Int×Lb×ZG) (gZ gD (k,l,j,(j,0,()),m)) fun⟨c,d,e,b,a⟩=>if(List.length a+List.length [b])*16≤aE then(some (.brk (c,d,e,a++[b]))) else none)) else none) else none) else none) else none) fun⟨f,g,h,i⟩=>acK (f,g,h,i)) else(some (.brk m))
def nB(a0:fG)(a1:fG):Option ZG:=
 aG (U:=ZG) (jc gD (a0,a1,0,([]:ZG))) fun v1=>some v1
def NT:SS:=⟨50,90,[(0,.bL iI),(1,.bL iI),(4,.own 67),tI 5,tP 6 22],[(22,bV nW),(67,.row 81 16 nW)],[]⟩
def Qi:SS:=⟨50,90,[(4,.own 68)],[(68,.row 81 16 nW)],[]⟩
def Qj:SS:=⟨50,90,[(0,.bL iI),(1,.bL iI),(4,.own 66),tI 5],[(66,.row 81 16 nW)],[]⟩
def Qk:SS:=⟨50,90,[(0,.bL iI),(1,.bL iI),(4,.own 67),tI 5],[(67,.row 81 16 nW)],[]⟩
def NU:SS:=⟨50,90,[(4,.val (.slice 16 nW))],[],[]⟩
def Lj:aW:=aF G [.tmp 4] 23 [.bL iI,.bL iI] [] 90 NU [] (.bE (u2 nB))
theorem Lk:hS Lj:=
 cO ⟨[],[(11,NT),(12,Qi)],[(1,Qj)],[(2,⟨Qk,fun _=>gD⟩),(6,⟨NT,fun _=>gD⟩)],[],[]⟩ hz aI Tryz.call23 Tryz.func23
end Go.Proofs.YtgdcjlldafmomaaGreat
