/- part -/
import Derived.Test.YtkhfnbfpgcjllaaGreatDoorUn
noncomputable section
namespace Go.Proofs.YtkhfnbfpgcjllaaGreatDoor
open Go.Ax
def dJ:ZT:=aL fun apt ⟨b,c,a,e,d⟩=>if 0≤a then(if a<(1024:Int) then(if 0≤a then(if a<(1024:Int) then(if(!decide ((nth (.int .i64) b a)=(nth (.int .i64) c a)))=true then(if(decide ((aQ (a+1))=(1024:Int)))=true then(if(List.length d+List.length [(e.1,aQ (a+1),e.2.2)])*16≤aF then(cN (cN (some (.aS (d++[(e.1,aQ (a+1),e.2.2)]))))) else none) else(apt (b,c,aQ (a+1),(e.1,aQ (a+1),e.2.2),d))) else(some (.aS (b,c,a,e,d)))) else none) else none) else none) else none
def fj:Nat→eM×eM×Int×Zv→Option (dN Zv Zv):=aL fun aoP ⟨k,l,j,m⟩=>if(decide (j<(1024:Int)))=true then(aG (U:=eM×eM×Int×Zv) (if 0≤j then(if j<(1024:Int) then(if 0≤j then(if j<(1024:Int) then(if(decide ((nth (.int .i64) k j)=(nth (.int .i64) l j)))=true then(some (.aS (k,l,aQ (j+1),m))) else(aG (U:=eM×eM×Int×uc×Zv) (dJ dA (k,l,j,(j,0,()),m)) fun⟨c,d,e,b,a⟩=>if(List.length a+List.length [b])*16≤aF then(some (.aS (c,d,e,a++[b]))) else none)) else none) else none) else none) else none) fun⟨f,g,h,i⟩=>aoP (f,g,h,i)) else(some (.aS m))
def iy(a0:eM)(a1:eM):Option Zv:=
 aG (U:=Zv) (fj dA (a0,a1,0,([]:Zv))) fun v1=>some v1
def abl:SS:=⟨50,90,[(0,.dk jX),(1,.dk jX),(4,.own 67),tI 5,tP 6 22],[(22,bV fS),(67,.row 117 16 fS)],[]⟩
def akN:SS:=⟨50,90,[(4,.own 68)],[(68,.row 117 16 fS)],[]⟩
def akO:SS:=⟨50,90,[(0,.dk jX),(1,.dk jX),(4,.own 66),tI 5],[(66,.row 117 16 fS)],[]⟩
def akP:SS:=⟨50,90,[(0,.dk jX),(1,.dk jX),(4,.own 67),tI 5],[(67,.row 117 16 fS)],[]⟩
def abm:SS:=⟨50,90,[(4,.val (.slice 16 fS))],[],[]⟩
def Xz:bH:=aI G [.tmp 4] 45 [.dk jX,.dk jX] [] 90 abm [] (.bZ (u2 iy))
theorem Ep:hS Xz:=
 cO ⟨[],[(11,abl),(12,akN)],[(1,akO)],[(2,⟨akP,fun _=>dA⟩),(6,⟨abl,fun _=>dA⟩)],[],[]⟩ hz aJ Tryz.call45 Tryz.func45
end Go.Proofs.YtkhfnbfpgcjllaaGreatDoor
