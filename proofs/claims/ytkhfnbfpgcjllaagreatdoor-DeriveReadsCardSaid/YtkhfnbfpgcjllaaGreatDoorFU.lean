/- part -/
import Derived.Test.YtkhfnbfpgcjllaaGreatDoorUm
noncomputable section
namespace Go.Proofs.YtkhfnbfpgcjllaaGreatDoor
open Go.Ax
def kL:ZV:=aL fun rec8 ⟨d,e,a,f,g,h,c,b⟩=>if(decide (a<(rp b.2.2.1.2.1 (1024:Int))))=true then(Option.bind (α:=Bool) (if 0≤a then(if a<(1024:Int) then(if(decide ((nth (.int .i64) c a)=(0:Int)))=true then(some true) else(if 0≤a then(if a<(1024:Int) then(if 0≤(aQ ((nth (.int .i64) c a) -(1:Int))) then(if(aQ ((nth (.int .i64) c a) -(1:Int)))<(List.length d:Int) then(Option.bind (f64 (nth aN d (aQ ((nth (.int .i64) c a) -(1:Int)))) b) fun y9=>some (decide (y9≤(0:Int)))) else none) else none) else none) else none)) else none) else none) fun v10=>if v10=true then(if 0≤a then(if a<(1024:Int) then(rec8 (d,e,aQ (a+1),f,g,h,List.set c (Int.toNat a) (aQ (e+1)),b)) else none) else none) else(rec8 (d,e,aQ (a+1),f,g,h,c,b))) else(some (.aS (d,f,g,h,c)))
def g8:Zaq:=aL fun apq ⟨i,h,g,f,j⟩=>if(decide (f<g))=true then(aG (U:=Zh×Zh×Int×Int×eM) (if 0≤f then(if f<(List.length h:Int) then(kL dA (i,f,imax (nth aN h f).2.2.1.1 (0:Int),h,g,f,j,nth aN h f)) else none) else none) fun⟨a,b,c,d,e⟩=>apq (a,b,c,aQ (d+1),e)) else(some (.aS (i,j)))
def i9:Nat→Zh×Int×eM×eM→Option (dN eM eM):=aL fun rec13 ⟨c,a,b,d⟩=>if(decide (a<(1024:Int)))=true then(if 0≤a then(if a<(1024:Int) then(if 0≤a then(if a<(1024:Int) then(if(decide ((0:Int)<(nth (.int .i64) b a)))=true then(if 0≤a then(if a<(1024:Int) then(if 0≤(aQ ((nth (.int .i64) b a) -(1:Int))) then(if(aQ ((nth (.int .i64) b a) -(1:Int)))<(List.length c:Int) then(if 0≤a then(if a<(1024:Int) then(rec13 (c,aQ (a+1),b,List.set (List.set d (Int.toNat a) (-1:Int)) (Int.toNat a) (imax (nth aN c (aQ ((nth (.int .i64) b a) -(1:Int)))).2.1 (-1:Int)))) else none) else none) else none) else none) else none) else none) else(rec13 (c,aQ (a+1),b,List.set d (Int.toNat a) (-1:Int)))) else none) else none) else none) else none) else(some (.aS d))
def qL(a0:Zh)(a1:hJ)(a2:Int):Option eM:=
 Option.bind (sD a0 a1 a2) fun⟨a,b,c⟩=>Option.bind (fW a b c) fun y2=>aG (U:=Zh×eM) (g8 (Int.toNat (List.length y2:Int)+1) (y2,y2,(List.length y2:Int),0,Ty.aH jX)) fun⟨d,e⟩=>aG (U:=eM) (i9 (Int.toNat (1024:Int)+1) (d,0,e,Ty.aH jX)) fun v11=>some v11
def acj:SS:=⟨80,120,[tP 7 23,(8,.val (.slice 64 aN)),(19,.val (.slice 64 aN)),tI 20,tI 21],[(23,bV jX)],[]⟩
def ama:SS:=⟨80,120,[tP 7 23,(8,.val (.slice 64 aN))],[(23,bV jX)],[]⟩
def amb:SS:=⟨80,120,[tP 12 28],[(28,bV jX)],[]⟩
def amc:SS:=⟨80,120,[tP 7 23,(8,.val (.slice 64 aN)),tI 9,tP 10 26,tI 11,(19,.val (.slice 64 aN)),tI 20,tI 21],[(23,bV jX),(26,bV aN)],[]⟩
def amd:SS:=⟨80,120,[tP 7 23,(8,.val (.slice 64 aN)),tP 12 28,tI 59],[(23,bV jX),(28,bV jX)],[]⟩
def ack:SS:=⟨80,120,[tP 6 28],[(28,bV jX)],[]⟩
def XP:bH:=aI G [.tmp 6] 46 [.val (.slice 64 aN),.val aR,vI] [] 120 ack [28] (.bZ (u3 qL))
theorem Ew:hS XP:=
 cO ⟨[(2,⟨[],[(4,17,.aY .func)],[⟨[0],[],[(19,33),(20,96),(21,97)],[],[]⟩,⟨[1],[],[],[],[]⟩],none,[],[],[]⟩),hD 9 53 [cA 2]],[(11,acj),(12,ama),(20,amb)],[],[(4,⟨acj,fun u4=>Int.toNat u4.2.2.1+1⟩),(7,⟨amc,fun _=>dA⟩),(14,⟨amd,fun _=>Int.toNat (1024:Int)+1⟩)],[],[]⟩ (hq Pc (hq yI (hq x64 hz))) aJ Tryz.call46 Tryz.func46
end Go.Proofs.YtkhfnbfpgcjllaaGreatDoor
