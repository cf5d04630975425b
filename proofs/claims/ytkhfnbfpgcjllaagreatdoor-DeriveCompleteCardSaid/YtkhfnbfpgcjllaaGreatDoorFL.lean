/- part -/
import Derived.Test.YtkhfnbfpgcjllaaGreatDoorUf
noncomputable section
namespace Go.Proofs.YtkhfnbfpgcjllaaGreatDoor
open Go.Ax
def dJ:ZT:=aL fun apt ⟨b,c,a,e,d⟩=>if 0≤a then(if a<(1024:Int) then(if 0≤a then(if a<(1024:Int) then(if(!decide ((nth (.int .i64) b a)=(nth (.int .i64) c a)))=true then(if(decide ((aQ (a+1))=(1024:Int)))=true then(if(List.length d+List.length [(e.1,aQ (a+1),e.2.2)])*16≤aF then(cN (cN (some (.aS (d++[(e.1,aQ (a+1),e.2.2)]))))) else none) else(apt (b,c,aQ (a+1),(e.1,aQ (a+1),e.2.2),d))) else(some (.aS (b,c,a,e,d)))) else none) else none) else none) else none
def fj:Nat→eM×eM×Int×Zv→Option (dN Zv Zv):=aL fun aoP ⟨k,l,j,m⟩=>if(decide (j<(1024:Int)))=true then(aG (U:=eM×eM×Int×Zv) (if 0≤j then(if j<(1024:Int) then(if 0≤j then(if j<(1024:Int) then(if(decide ((nth (.int .i64) k j)=(nth (.int .i64) l j)))=true then(some (.aS (k,l,aQ (j+1),m))) else(aG (U:=eM×eM×Int×uc×Zv) (dJ dA (k,l,j,(j,0,()),m)) fun⟨c,d,e,b,a⟩=>if(List.length a+List.length [b])*16≤aF then(some (.aS (c,d,e,a++[b]))) else none)) else none) else none) else none) else none) fun⟨f,g,h,i⟩=>aoP (f,g,h,i)) else(some (.aS m))
def iy(a0:eM)(a1:eM):Option Zv:=
 aG (U:=Zv) (fj dA (a0,a1,0,([]:Zv))) fun v1=>some v1
end Go.Proofs.YtkhfnbfpgcjllaaGreatDoor
