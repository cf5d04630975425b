/- Made by program (dec6.py): walks -/
import Derived.Test.YtgdcjlldafmomaaGreatUP
noncomputable section
namespace Go.Proofs.YtgdcjlldafmomaaGreat
open Go.Ax
def iI:Nat→ew×ew×Int×Me×ZO→Option (cz (ew×ew×Int×Me×ZO) (cz (ew×ew×Int×ZO) (cz ZO ZO))):=aH fun rec7 ⟨b,c,a,e,d⟩=>if 0≤a then(if a<(1024:Int) then(if 0≤a then(if a<(1024:Int) then(if(!decide ((nth (.int .i64) b a)=(nth (.int .i64) c a)))=true then(if(decide ((aV (a+1))=(1024:Int)))=true then(if(List.length d+List.length [(e.1,aV (a+1),e.2.2)])*16≤aC then(bP (bP (some (.brk (d++[(e.1,aV (a+1),e.2.2)]))))) else none) else(rec7 (b,c,aV (a+1),(e.1,aV (a+1),e.2.2),d))) else(some (.brk (b,c,a,e,d)))) else none) else none) else none) else none
def mU:Nat→ew×ew×Int×ZO→Option (cz ZO ZO):=aH fun Z9 ⟨k,l,j,m⟩=>if(decide (j<(1024:Int)))=true then(aE (U:=ew×ew×Int×ZO) (if 0≤j then(if j<(1024:Int) then(if 0≤j then(if j<(1024:Int) then(if(decide ((nth (.int .i64) k j)=(nth (.int .i64) l j)))=true then(some (.brk (k,l,aV (j+1),m))) else(aE (U:=ew×ew×Int×Me×ZO) (iI ff (k,l,j,(j,0,()),m)) fun⟨c,d,e,b,a⟩=>if(List.length a+List.length [b])*16≤aC then(some (.brk (c,d,e,a++[b]))) else none)) else none) else none) else none) else none) fun⟨f,g,h,i⟩=>Z9 (f,g,h,i)) else(some (.brk m))
def xz(a0:ew)(a1:ew):Option ZO:=
 aE (U:=ZO) (mU ff (a0,a1,0,([]:ZO))) fun v1=>some v1
def Le:SS:=⟨50,90,[(0,.bD gA),(1,.bD gA),(4,.own 67),tI 5,tP 6 22],[(22,bV sL),(67,.row 81 16 sL)],[]⟩
def NC:SS:=⟨50,90,[(4,.own 68)],[(68,.row 81 16 sL)],[]⟩
def ND:SS:=⟨50,90,[(0,.bD gA),(1,.bD gA),(4,.own 66),tI 5],[(66,.row 81 16 sL)],[]⟩
def NF:SS:=⟨50,90,[(0,.bD gA),(1,.bD gA),(4,.own 67),tI 5],[(67,.row 81 16 sL)],[]⟩
def Lf:SS:=⟨50,90,[(4,.val (.slice 16 sL))],[],[]⟩
def IT:aT:=aD G [.tmp 4] 23 [.bD gA,.bD gA] [] 90 Lf [] (.bx (u2 xz))
theorem IU:hS IT:=
 cO ⟨[],[(11,Le),(12,NC)],[(1,ND)],[(2,⟨NF,fun _=>ff⟩),(6,⟨Le,fun _=>ff⟩)],[],[]⟩ hz aF Tryz.call23 Tryz.func23
end Go.Proofs.YtgdcjlldafmomaaGreat
