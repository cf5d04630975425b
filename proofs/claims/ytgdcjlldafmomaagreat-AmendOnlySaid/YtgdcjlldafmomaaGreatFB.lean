/- Made by program (dec6.py): walks -/
import Derived.Test.YtgdcjlldafmomaaGreatUC
noncomputable section
namespace Go.Proofs.YtgdcjlldafmomaaGreat
open Go.Ax
def BU:Nat→Zl×Int×Int×Zl×Int×Int×ew×ef→Option (cz (Zl×Zl×Int×Int×ew) (cz (Zl×ew) ew)):=aH fun rec8 ⟨d,e,a,f,g,h,c,b⟩=>if(decide (a<(BH b.2.2.1.2.1 (1024:Int))))=true then(Option.bind (α:=Bool) (if 0≤a then(if a<(1024:Int) then(if(decide ((nth (.int .i64) c a)=(0:Int)))=true then(some true) else(if 0≤a then(if a<(1024:Int) then(if 0≤(aV ((nth (.int .i64) c a) -(1:Int))) then(if(aV ((nth (.int .i64) c a) -(1:Int)))<(List.length d:Int) then(Option.bind (f42 (nth aR d (aV ((nth (.int .i64) c a) -(1:Int)))) b) fun y9=>some (decide (y9≤(0:Int)))) else none) else none) else none) else none)) else none) else none) fun v10=>if v10=true then(if 0≤a then(if a<(1024:Int) then(rec8 (d,e,aV (a+1),f,g,h,List.set c (Int.toNat a) (aV (e+1)),b)) else none) else none) else(rec8 (d,e,aV (a+1),f,g,h,c,b))) else(some (.brk (d,f,g,h,c)))
def nE:Nat→Zl×Zl×Int×Int×ew→Option (cz (Zl×ew) ew):=aH fun aaI ⟨i,h,g,f,j⟩=>if(decide (f<g))=true then(aE (U:=Zl×Zl×Int×Int×ew) (if 0≤f then(if f<(List.length h:Int) then(BU ff (i,f,imax (nth aR h f).2.2.1.1 (0:Int),h,g,f,j,nth aR h f)) else none) else none) fun⟨a,b,c,d,e⟩=>aaI (a,b,c,aV (d+1),e)) else(some (.brk (i,j)))
def lO:Nat→Zl×Int×ew×ew→Option (cz ew ew):=aH fun rec13 ⟨c,a,b,d⟩=>if(decide (a<(1024:Int)))=true then(if 0≤a then(if a<(1024:Int) then(if 0≤a then(if a<(1024:Int) then(if(decide ((0:Int)<(nth (.int .i64) b a)))=true then(if 0≤a then(if a<(1024:Int) then(if 0≤(aV ((nth (.int .i64) b a) -(1:Int))) then(if(aV ((nth (.int .i64) b a) -(1:Int)))<(List.length c:Int) then(if 0≤a then(if a<(1024:Int) then(rec13 (c,aV (a+1),b,List.set (List.set d (Int.toNat a) (-1:Int)) (Int.toNat a) (imax (nth aR c (aV ((nth (.int .i64) b a) -(1:Int)))).2.1 (-1:Int)))) else none) else none) else none) else none) else none) else none) else(rec13 (c,aV (a+1),b,List.set d (Int.toNat a) (-1:Int)))) else none) else none) else none) else none) else(some (.brk d))
def zb(a0:Zl)(a1:fQ)(a2:Int):Option ew:=
 Option.bind (rq a0 a1 a2) fun⟨a,b,c⟩=>Option.bind (kR a b c) fun y2=>aE (U:=Zl×ew) (nE (Int.toNat (List.length y2:Int)+1) (y2,y2,(List.length y2:Int),0,Ty.aB gA)) fun⟨d,e⟩=>aE (U:=ew) (lO (Int.toNat (1024:Int)+1) (d,0,e,Ty.aB gA)) fun v11=>some v11
def MF:SS:=⟨80,120,[tP 7 23,(8,.val (.slice 64 aR)),(19,.val (.slice 64 aR)),tI 20,tI 21],[(23,bV gA)],[]⟩
def SZ:SS:=⟨80,120,[tP 7 23,(8,.val (.slice 64 aR))],[(23,bV gA)],[]⟩
def S0:SS:=⟨80,120,[tP 12 28],[(28,bV gA)],[]⟩
def S1:SS:=⟨80,120,[tP 7 23,(8,.val (.slice 64 aR)),tI 9,tP 10 26,tI 11,(19,.val (.slice 64 aR)),tI 20,tI 21],[(23,bV gA),(26,bV aR)],[]⟩
def S2:SS:=⟨80,120,[tP 7 23,(8,.val (.slice 64 aR)),tP 12 28,tI 59],[(23,bV gA),(28,bV gA)],[]⟩
def MG:SS:=⟨80,120,[tP 6 28],[(28,bV gA)],[]⟩
def JS:aT:=aD G [.tmp 6] 24 [.val (.slice 64 aR),.val bE,vI] [] 120 MG [28] (.bx (u3 zb))
theorem JT:hS JS:=
 cO ⟨[(2,⟨[],[(4,17,.aN .func)],[⟨[0],[],[(19,33),(20,96),(21,97)],[],[]⟩,⟨[1],[],[],[],[]⟩],none,[],[],[]⟩),hD 9 53 [cA 2]],[(11,MF),(12,SZ),(20,S0)],[],[(4,⟨MF,fun u4=>Int.toNat u4.2.2.1+1⟩),(7,⟨S1,fun _=>ff⟩),(14,⟨S2,fun _=>Int.toNat (1024:Int)+1⟩)],[],[]⟩ (hq D9 (hq HC (hq V7 hz))) aF Tryz.call24 Tryz.func24
end Go.Proofs.YtgdcjlldafmomaaGreat
