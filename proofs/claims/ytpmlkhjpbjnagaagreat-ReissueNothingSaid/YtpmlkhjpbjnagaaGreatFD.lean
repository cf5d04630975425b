/- part -/
import Derived.Test.YtpmlkhjpbjnagaaGreatUC
noncomputable section
namespace Go.Proofs.YtpmlkhjpbjnagaaGreat
open Go.Ax
def nv:Nat→Zn×Int×Int×Zn×Int×Int×gi×fq→Option (cH (Zn×Zn×Int×Int×gi) (cH (Zn×gi) gi)):=aK fun rec8 ⟨d,e,a,f,g,h,c,b⟩=>if(decide (a<(qj b.2.2.1.2.1 (1024:Int))))=true then(Option.bind (α:=Bool) (if 0≤a then(if a<(1024:Int) then(if(decide ((nth qr c a)=(0:Int)))=true then(some true) else(if 0≤a then(if a<(1024:Int) then(if 0≤(aZ ((nth qr c a) -(1:Int))) then(if(aZ ((nth qr c a) -(1:Int)))<(d.length:Int) then(Option.bind (WK (nth aW d (aZ ((nth qr c a) -(1:Int)))) b) fun y9=>some (decide (y9≤(0:Int)))) else none) else none) else none) else none)) else none) else none) fun v10=>if v10=true then(if 0≤a then(if a<(1024:Int) then(rec8 (d,e,aZ (a+1),f,g,h,List.set c (Int.toNat a) (aZ (e+1)),b)) else none) else none) else(rec8 (d,e,aZ (a+1),f,g,h,c,b))) else(some (.bA (d,f,g,h,c)))
def ku:Nat→Zn×Zn×Int×Int×gi→Option (cH (Zn×gi) gi):=aK fun anz ⟨i,h,g,f,j⟩=>if(decide (f<g))=true then(aH (U:=Zn×Zn×Int×Int×gi) (if 0≤f then(if f<(h.length:Int) then(nv eP (i,f,imax (nth aW h f).2.2.1.1 (0:Int),h,g,f,j,nth aW h f)) else none) else none) fun⟨a,b,c,d,e⟩=>anz (a,b,c,aZ (d+1),e)) else(some (.bA (i,j)))
def oK:Nat→Zn×Int×gi×gi→Option (cH gi gi):=aK fun rec13 ⟨c,a,b,d⟩=>if(decide (a<(1024:Int)))=true then(if 0≤a then(if a<(1024:Int) then(if 0≤a then(if a<(1024:Int) then(if(decide ((0:Int)<(nth qr b a)))=true then(if 0≤a then(if a<(1024:Int) then(if 0≤(aZ ((nth qr b a) -(1:Int))) then(if(aZ ((nth qr b a) -(1:Int)))<(c.length:Int) then(if 0≤a then(if a<(1024:Int) then(rec13 (c,aZ (a+1),b,List.set (List.set d (Int.toNat a) (-1:Int)) (Int.toNat a) (imax (nth aW c (aZ ((nth qr b a) -(1:Int)))).2.1 (-1:Int)))) else none) else none) else none) else none) else none) else none) else(rec13 (c,aZ (a+1),b,List.set d (Int.toNat a) (-1:Int)))) else none) else none) else none) else none) else(some (.bA d))
def C8(a0:Zn)(a1:cF)(a2:Int):Option gi:=
 Option.bind (uu a0 a1 a2) fun⟨a,b,c⟩=>Option.bind (j8 a b c) fun y2=>aH (U:=Zn×gi) (ku (Int.toNat (y2.length:Int)+1) (y2,y2,(y2.length:Int),0,Ty.aD i9)) fun⟨d,e⟩=>aH (U:=gi) (oK (Int.toNat (1024:Int)+1) (d,0,e,Ty.aD i9)) fun v11=>some v11
def WN:SS:=⟨80,120,[tP 7 23,(8,.val (.slice 64 aW)),(19,.val (.slice 64 aW)),tI 20,tI 21],[(23,bV i9)],[]⟩
def acq:SS:=⟨80,120,[tP 7 23,(8,.val (.slice 64 aW))],[(23,bV i9)],[]⟩
def acr:SS:=⟨80,120,[tP 12 28],[(28,bV i9)],[]⟩
def acs:SS:=⟨80,120,[tP 7 23,(8,.val (.slice 64 aW)),tI 9,tP 10 26,tI 11,(19,.val (.slice 64 aW)),tI 20,tI 21],[(23,bV i9),(26,bV aW)],[]⟩
def acu:SS:=⟨80,120,[tP 7 23,(8,.val (.slice 64 aW)),tP 12 28,tI 59],[(23,bV i9),(28,bV i9)],[]⟩
def WO:SS:=⟨80,120,[tP 6 28],[(28,bV i9)],[]⟩
def S1:aX:=aE G [.tmp 6] 48 [.val (.slice 64 aW),.val aF,vI] [] 120 WO [28] (.bH (u3 C8))
theorem S2:hS S1:=
 cO ⟨[(2,⟨[],[(4,17,.aS .func)],[⟨[0],[],[(19,33),(20,96),(21,97)],[],[]⟩,⟨[1],[],[],[],[]⟩],none,[],[],[]⟩),hD 9 53 [cA 2]],[(11,WN),(12,acq),(20,acr)],[],[(4,⟨WN,fun u4=>Int.toNat u4.2.2.1+1⟩),(7,⟨acs,fun _=>eP⟩),(14,⟨acu,fun _=>Int.toNat (1024:Int)+1⟩)],[],[]⟩ (hq Jb (hq QK (hq x71 hz))) aJ Tryz.call48 Tryz.func48
end Go.Proofs.YtpmlkhjpbjnagaaGreat
