/- part -/
import Derived.Test.YtgdcjlldafmomaaGreatUC
noncomputable section
namespace Go.Proofs.YtgdcjlldafmomaaGreat
open Go.Ax
def mY:Nat→Zk×Int×Int×Zk×Int×Int×fK×fa→Option (cW (Zk×Zk×Int×Int×fK) (cW (Zk×fK) fK)):=aK fun rec8 ⟨d,e,a,f,g,h,c,b⟩=>if(decide (a<(nS b.2.2.1.2.1 (1024:Int))))=true then(Option.bind (α:=Bool) (if 0≤a then(if a<(1024:Int) then(if(decide ((nth (.int .i64) c a)=(0:Int)))=true then(some true) else(if 0≤a then(if a<(1024:Int) then(if 0≤(aZ ((nth (.int .i64) c a) -(1:Int))) then(if(aZ ((nth (.int .i64) c a) -(1:Int)))<(List.length d:Int) then(Option.bind (f42 (nth aP d (aZ ((nth (.int .i64) c a) -(1:Int)))) b) fun y9=>some (decide (y9≤(0:Int)))) else none) else none) else none) else none)) else none) else none) fun v10=>if v10=true then(if 0≤a then(if a<(1024:Int) then(rec8 (d,e,aZ (a+1),f,g,h,List.set c (Int.toNat a) (aZ (e+1)),b)) else none) else none) else(rec8 (d,e,aZ (a+1),f,g,h,c,b))) else(some (.brk (d,f,g,h,c)))
def kO:Nat→Zk×Zk×Int×Int×fK→Option (cW (Zk×fK) fK):=aK fun acm ⟨i,h,g,f,j⟩=>if(decide (f<g))=true then(aG (U:=Zk×Zk×Int×Int×fK) (if 0≤f then(if f<(List.length h:Int) then(mY fJ (i,f,imax (nth aP h f).2.2.1.1 (0:Int),h,g,f,j,nth aP h f)) else none) else none) fun⟨a,b,c,d,e⟩=>acm (a,b,c,aZ (d+1),e)) else(some (.brk (i,j)))
def oh:Nat→Zk×Int×fK×fK→Option (cW fK fK):=aK fun rec13 ⟨c,a,b,d⟩=>if(decide (a<(1024:Int)))=true then(if 0≤a then(if a<(1024:Int) then(if 0≤a then(if a<(1024:Int) then(if(decide ((0:Int)<(nth (.int .i64) b a)))=true then(if 0≤a then(if a<(1024:Int) then(if 0≤(aZ ((nth (.int .i64) b a) -(1:Int))) then(if(aZ ((nth (.int .i64) b a) -(1:Int)))<(List.length c:Int) then(if 0≤a then(if a<(1024:Int) then(rec13 (c,aZ (a+1),b,List.set (List.set d (Int.toNat a) (-1:Int)) (Int.toNat a) (imax (nth aP c (aZ ((nth (.int .i64) b a) -(1:Int)))).2.1 (-1:Int)))) else none) else none) else none) else none) else none) else none) else(rec13 (c,aZ (a+1),b,List.set d (Int.toNat a) (-1:Int)))) else none) else none) else none) else none) else(some (.brk d))
def Bh(a0:Zk)(a1:ib)(a2:Int):Option fK:=
 Option.bind (ue a0 a1 a2) fun⟨a,b,c⟩=>Option.bind (ka a b c) fun y2=>aG (U:=Zk×fK) (kO (Int.toNat (List.length y2:Int)+1) (y2,y2,(List.length y2:Int),0,Ty.aD iW)) fun⟨d,e⟩=>aG (U:=fK) (oh (Int.toNat (1024:Int)+1) (d,0,e,Ty.aD iW)) fun v11=>some v11
def NZ:SS:=⟨80,120,[tP 7 23,(8,.val (.slice 64 aP)),(19,.val (.slice 64 aP)),tI 20,tI 21],[(23,bV iW)],[]⟩
def Un:SS:=⟨80,120,[tP 7 23,(8,.val (.slice 64 aP))],[(23,bV iW)],[]⟩
def Up:SS:=⟨80,120,[tP 12 28],[(28,bV iW)],[]⟩
def Uq:SS:=⟨80,120,[tP 7 23,(8,.val (.slice 64 aP)),tI 9,tP 10 26,tI 11,(19,.val (.slice 64 aP)),tI 20,tI 21],[(23,bV iW),(26,bV aP)],[]⟩
def Ur:SS:=⟨80,120,[tP 7 23,(8,.val (.slice 64 aP)),tP 12 28,tI 59],[(23,bV iW),(28,bV iW)],[]⟩
def N0:SS:=⟨80,120,[tP 6 28],[(28,bV iW)],[]⟩
def Lu:aW:=aF G [.tmp 6] 24 [.val (.slice 64 aP),.val bu,vI] [] 120 N0 [28] (.bH (u3 Bh))
theorem Lv:hS Lu:=
 cO ⟨[(2,⟨[],[(4,17,.aR .func)],[⟨[0],[],[(19,33),(20,96),(21,97)],[],[]⟩,⟨[1],[],[],[],[]⟩],none,[],[],[]⟩),hD 9 53 [cA 2]],[(11,NZ),(12,Un),(20,Up)],[],[(4,⟨NZ,fun u4=>Int.toNat u4.2.2.1+1⟩),(7,⟨Uq,fun _=>fJ⟩),(14,⟨Ur,fun _=>Int.toNat (1024:Int)+1⟩)],[],[]⟩ (hq F4 (hq Jp (hq XL hz))) aJ Tryz.call24 Tryz.func24
end Go.Proofs.YtgdcjlldafmomaaGreat
