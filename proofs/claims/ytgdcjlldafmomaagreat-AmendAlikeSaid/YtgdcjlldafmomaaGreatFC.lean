/- part -/
import Derived.Test.YtgdcjlldafmomaaGreatUP
noncomputable section
namespace Go.Proofs.YtgdcjlldafmomaaGreat
open Go.Ax
def iq:Nat→fK×fK×Int×Kn×ZH→Option (cW (fK×fK×Int×Kn×ZH) (cW (fK×fK×Int×ZH) (cW ZH ZH))):=aK fun rec7 ⟨b,c,a,e,d⟩=>if 0≤a then(if a<(1024:Int) then(if 0≤a then(if a<(1024:Int) then(if(!decide ((nth (.int .i64) b a)=(nth (.int .i64) c a)))=true then(if(decide ((aZ (a+1))=(1024:Int)))=true then(if(List.length d+List.length [(e.1,aZ (a+1),e.2.2)])*16≤aE then(cn (cn (some (.brk (d++[(e.1,aZ (a+1),e.2.2)]))))) else none) else(rec7 (b,c,aZ (a+1),(e.1,aZ (a+1),e.2.2),d))) else(some (.brk (b,c,a,e,d)))) else none) else none) else none) else none
def jq:Nat→fK×fK×Int×ZH→Option (cW ZH ZH):=aK fun abG ⟨k,l,j,m⟩=>if(decide (j<(1024:Int)))=true then(aG (U:=fK×fK×Int×ZH) (if 0≤j then(if j<(1024:Int) then(if 0≤j then(if j<(1024:Int) then(if(decide ((nth (.int .i64) k j)=(nth (.int .i64) l j)))=true then(some (.brk (k,l,aZ (j+1),m))) else(aG (U:=fK×fK×Int×Kn×ZH) (iq fJ (k,l,j,(j,0,()),m)) fun⟨c,d,e,b,a⟩=>if(List.length a+List.length [b])*16≤aE then(some (.brk (c,d,e,a++[b]))) else none)) else none) else none) else none) else none) fun⟨f,g,h,i⟩=>abG (f,g,h,i)) else(some (.brk m))
def nJ(a0:fK)(a1:fK):Option ZH:=
 aG (U:=ZH) (jq fJ (a0,a1,0,([]:ZH))) fun v1=>some v1
def MR:SS:=⟨50,90,[(0,.bN iW),(1,.bN iW),(4,.own 67),tI 5,tP 6 22],[(22,bV ou),(67,.row 81 16 ou)],[]⟩
def Pj:SS:=⟨50,90,[(4,.own 68)],[(68,.row 81 16 ou)],[]⟩
def Pk:SS:=⟨50,90,[(0,.bN iW),(1,.bN iW),(4,.own 66),tI 5],[(66,.row 81 16 ou)],[]⟩
def Pm:SS:=⟨50,90,[(0,.bN iW),(1,.bN iW),(4,.own 67),tI 5],[(67,.row 81 16 ou)],[]⟩
def MT:SS:=⟨50,90,[(4,.val (.slice 16 ou))],[],[]⟩
def Kv:aW:=aF G [.tmp 4] 23 [.bN iW,.bN iW] [] 90 MT [] (.bH (u2 nJ))
theorem Kw:hS Kv:=
 cO ⟨[],[(11,MR),(12,Pj)],[(1,Pk)],[(2,⟨Pm,fun _=>fJ⟩),(6,⟨MR,fun _=>fJ⟩)],[],[]⟩ hz aJ Tryz.call23 Tryz.func23
end Go.Proofs.YtgdcjlldafmomaaGreat
