/- part -/
import Derived.Test.YtpmlkhjpbjnagaaGreatUP
noncomputable section
namespace Go.Proofs.YtpmlkhjpbjnagaaGreat
open Go.Ax
def iK:Nat→gi×gi×Int×kR×ZM→Option (cH (gi×gi×Int×kR×ZM) (cH (gi×gi×Int×ZM) (cH ZM ZM))):=aK fun rec7 ⟨b,c,a,e,d⟩=>if 0≤a then(if a<(1024:Int) then(if 0≤a then(if a<(1024:Int) then(if(!decide ((nth qr b a)=(nth qr c a)))=true then(if(decide ((aZ (a+1))=(1024:Int)))=true then(if(d.length+List.length [(e.1,aZ (a+1),e.2.2)])*16≤aG then(cw (cw (some (.bA (d++[(e.1,aZ (a+1),e.2.2)]))))) else none) else(rec7 (b,c,aZ (a+1),(e.1,aZ (a+1),e.2.2),d))) else(some (.bA (b,c,a,e,d)))) else none) else none) else none) else none
def jx:Nat→gi×gi×Int×ZM→Option (cH ZM ZM):=aK fun am3 ⟨k,l,j,m⟩=>if(decide (j<(1024:Int)))=true then(aH (U:=gi×gi×Int×ZM) (if 0≤j then(if j<(1024:Int) then(if 0≤j then(if j<(1024:Int) then(if(decide ((nth qr k j)=(nth qr l j)))=true then(some (.bA (k,l,aZ (j+1),m))) else(aH (U:=gi×gi×Int×kR×ZM) (iK eP (k,l,j,(j,0,()),m)) fun⟨c,d,e,b,a⟩=>if(a.length+List.length [b])*16≤aG then(some (.bA (c,d,e,a++[b]))) else none)) else none) else none) else none) else none) fun⟨f,g,h,i⟩=>am3 (f,g,h,i)) else(some (.bA m))
def pw(a0:gi)(a1:gi):Option ZM:=
 aH (U:=ZM) (jx eP (a0,a1,0,([]:ZM))) fun v1=>some v1
def aao:SS:=⟨50,90,[(0,.cb i9),(1,.cb i9),(4,.own 67),tI 5,tP 6 22],[(22,bV bQ),(67,.row 117 16 bQ)],[]⟩
def ajp:SS:=⟨50,90,[(4,.own 68)],[(68,.row 117 16 bQ)],[]⟩
def ajq:SS:=⟨50,90,[(0,.cb i9),(1,.cb i9),(4,.own 66),tI 5],[(66,.row 117 16 bQ)],[]⟩
def ajr:SS:=⟨50,90,[(0,.cb i9),(1,.cb i9),(4,.own 67),tI 5],[(67,.row 117 16 bQ)],[]⟩
def aap:SS:=⟨50,90,[(4,.val (.slice 16 bQ))],[],[]⟩
def VU:aX:=aE G [.tmp 4] 47 [.cb i9,.cb i9] [] 90 aap [] (.bH (u2 pw))
theorem VV:hS VU:=
 cO ⟨[],[(11,aao),(12,ajp)],[(1,ajq)],[(2,⟨ajr,fun _=>eP⟩),(6,⟨aao,fun _=>eP⟩)],[],[]⟩ hz aJ Tryz.call47 Tryz.func47
end Go.Proofs.YtpmlkhjpbjnagaaGreat
