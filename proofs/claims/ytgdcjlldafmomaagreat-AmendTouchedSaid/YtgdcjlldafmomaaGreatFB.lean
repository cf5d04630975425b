/- part -/
import Derived.Test.YtgdcjlldafmomaaGreatUC
noncomputable section
namespace Go.Proofs.YtgdcjlldafmomaaGreat
open Go.Ax
def mG:Nat→Zk×Int×Int×Zk×Int×Int×fG×eQ→Option (cQ (Zk×Zk×Int×Int×fG) (cQ (Zk×fG) fG)):=aK fun rec8 ⟨d,e,a,f,g,h,c,b⟩=>if(decide (a<(px b.2.2.1.2.1 (1024:Int))))=true then(Option.bind (α:=Bool) (if 0≤a then(if a<(1024:Int) then(if(decide ((nth (.int .i64) c a)=(0:Int)))=true then(some true) else(if 0≤a then(if a<(1024:Int) then(if 0≤(aZ ((nth (.int .i64) c a) -(1:Int))) then(if(aZ ((nth (.int .i64) c a) -(1:Int)))<(List.length d:Int) then(Option.bind (f42 (nth aO d (aZ ((nth (.int .i64) c a) -(1:Int)))) b) fun y9=>some (decide (y9≤(0:Int)))) else none) else none) else none) else none)) else none) else none) fun v10=>if v10=true then(if 0≤a then(if a<(1024:Int) then(rec8 (d,e,aZ (a+1),f,g,h,List.set c (Int.toNat a) (aZ (e+1)),b)) else none) else none) else(rec8 (d,e,aZ (a+1),f,g,h,c,b))) else(some (.brk (d,f,g,h,c)))
def kA:Nat→Zk×Zk×Int×Int×fG→Option (cQ (Zk×fG) fG):=aK fun adl ⟨i,h,g,f,j⟩=>if(decide (f<g))=true then(aG (U:=Zk×Zk×Int×Int×fG) (if 0≤f then(if f<(List.length h:Int) then(mG gD (i,f,imax (nth aO h f).2.2.1.1 (0:Int),h,g,f,j,nth aO h f)) else none) else none) fun⟨a,b,c,d,e⟩=>adl (a,b,c,aZ (d+1),e)) else(some (.brk (i,j)))
def nM:Nat→Zk×Int×fG×fG→Option (cQ fG fG):=aK fun rec13 ⟨c,a,b,d⟩=>if(decide (a<(1024:Int)))=true then(if 0≤a then(if a<(1024:Int) then(if 0≤a then(if a<(1024:Int) then(if(decide ((0:Int)<(nth (.int .i64) b a)))=true then(if 0≤a then(if a<(1024:Int) then(if 0≤(aZ ((nth (.int .i64) b a) -(1:Int))) then(if(aZ ((nth (.int .i64) b a) -(1:Int)))<(List.length c:Int) then(if 0≤a then(if a<(1024:Int) then(rec13 (c,aZ (a+1),b,List.set (List.set d (Int.toNat a) (-1:Int)) (Int.toNat a) (imax (nth aO c (aZ ((nth (.int .i64) b a) -(1:Int)))).2.1 (-1:Int)))) else none) else none) else none) else none) else none) else none) else(rec13 (c,aZ (a+1),b,List.set d (Int.toNat a) (-1:Int)))) else none) else none) else none) else none) else(some (.brk d))
def By(a0:Zk)(a1:gX)(a2:Int):Option fG:=
 Option.bind (sX a0 a1 a2) fun⟨a,b,c⟩=>Option.bind (jV a b c) fun y2=>aG (U:=Zk×fG) (kA (Int.toNat (List.length y2:Int)+1) (y2,y2,(List.length y2:Int),0,Ty.aD iI)) fun⟨d,e⟩=>aG (U:=fG) (nM (Int.toNat (1024:Int)+1) (d,0,e,Ty.aD iI)) fun v11=>some v11
def Pm:SS:=⟨80,120,[tP 7 23,(8,.val (.slice 64 aO)),(19,.val (.slice 64 aO)),tI 20,tI 21],[(23,bV iI)],[]⟩
def Tx:SS:=⟨80,120,[tP 7 23,(8,.val (.slice 64 aO))],[(23,bV iI)],[]⟩
def Tz:SS:=⟨80,120,[tP 12 28],[(28,bV iI)],[]⟩
def TA:SS:=⟨80,120,[tP 7 23,(8,.val (.slice 64 aO)),tI 9,tP 10 26,tI 11,(19,.val (.slice 64 aO)),tI 20,tI 21],[(23,bV iI),(26,bV aO)],[]⟩
def TB:SS:=⟨80,120,[tP 7 23,(8,.val (.slice 64 aO)),tP 12 28,tI 59],[(23,bV iI),(28,bV iI)],[]⟩
def Pn:SS:=⟨80,120,[tP 6 28],[(28,bV iI)],[]⟩
def Mb:aW:=aF G [.tmp 6] 24 [.val (.slice 64 aO),.val bx,vI] [] 120 Pn [28] (.bE (u3 By))
theorem Mc:hS Mb:=
 cO ⟨[(2,⟨[],[(4,17,.aR .func)],[⟨[0],[],[(19,33),(20,96),(21,97)],[],[]⟩,⟨[1],[],[],[],[]⟩],none,[],[],[]⟩),hD 9 53 [cA 2]],[(11,Pm),(12,Tx),(20,Tz)],[],[(4,⟨Pm,fun u4=>Int.toNat u4.2.2.1+1⟩),(7,⟨TA,fun _=>gD⟩),(14,⟨TB,fun _=>Int.toNat (1024:Int)+1⟩)],[],[]⟩ (hq Fh (hq Jk (hq X7 hz))) aI Tryz.call24 Tryz.func24
end Go.Proofs.YtgdcjlldafmomaaGreat
