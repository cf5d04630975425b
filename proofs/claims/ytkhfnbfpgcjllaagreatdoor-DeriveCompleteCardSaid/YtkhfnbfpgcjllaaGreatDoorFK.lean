/- part -/
import Derived.Test.YtkhfnbfpgcjllaaGreatDoorUe
noncomputable section
namespace Go.Proofs.YtkhfnbfpgcjllaaGreatDoor
open Go.Ax
def kL:ZV:=aL fun rec8 ⟨d,e,a,f,g,h,c,b⟩=>if(decide (a<(rp b.2.2.1.2.1 (1024:Int))))=true then(Option.bind (α:=Bool) (if 0≤a then(if a<(1024:Int) then(if(decide ((nth (.int .i64) c a)=(0:Int)))=true then(some true) else(if 0≤a then(if a<(1024:Int) then(if 0≤(aQ ((nth (.int .i64) c a) -(1:Int))) then(if(aQ ((nth (.int .i64) c a) -(1:Int)))<(List.length d:Int) then(Option.bind (f64 (nth aN d (aQ ((nth (.int .i64) c a) -(1:Int)))) b) fun y9=>some (decide (y9≤(0:Int)))) else none) else none) else none) else none)) else none) else none) fun v10=>if v10=true then(if 0≤a then(if a<(1024:Int) then(rec8 (d,e,aQ (a+1),f,g,h,List.set c (Int.toNat a) (aQ (e+1)),b)) else none) else none) else(rec8 (d,e,aQ (a+1),f,g,h,c,b))) else(some (.aS (d,f,g,h,c)))
def g8:Zaq:=aL fun apq ⟨i,h,g,f,j⟩=>if(decide (f<g))=true then(aG (U:=Zh×Zh×Int×Int×eM) (if 0≤f then(if f<(List.length h:Int) then(kL dA (i,f,imax (nth aN h f).2.2.1.1 (0:Int),h,g,f,j,nth aN h f)) else none) else none) fun⟨a,b,c,d,e⟩=>apq (a,b,c,aQ (d+1),e)) else(some (.aS (i,j)))
end Go.Proofs.YtkhfnbfpgcjllaaGreatDoor
