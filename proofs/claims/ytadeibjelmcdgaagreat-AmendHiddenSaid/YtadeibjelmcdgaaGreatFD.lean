/- Made by program (dec6.py): walks -/
import Derived.Test.YtadeibjelmcdgaaGreatUP
noncomputable section
namespace Go.Proofs.YtadeibjelmcdgaaGreat
open Go.Ax
def gG:Nat→(dA×dA×Int×kf×(List kf))→Option (ct (dA×dA×Int×kf×(List kf)) (ct (dA×dA×Int×(List kf)) (ct (List kf) (List kf)))):=aL fun rec7 ⟨b,c,a,d,e⟩=>if 0≤a then(if a<(1024:Int) then(if 0≤a then(if a<(1024:Int) then(if(!decide ((nth (.int .i64) b a)=(nth (.int .i64) c a)))=true then(if(decide ((bM (a+(1:Int)))=(1024:Int)))=true then none else(rec7 (b,c,bM (a+(1:Int)),(d.1,(bM (a+(1:Int)),d.2.2)),e))) else(some (.brk (b,c,a,d,e)))) else none) else none) else none) else none
def ln:Nat→(dA×dA×Int×(List kf))→Option (ct (List kf) (List kf)):=aL fun Rt ⟨k,l,j,m⟩=>if(decide (j<(1024:Int)))=true then(aG (U:=dA×dA×Int×(List kf)) (if 0≤j then(if j<(1024:Int) then(if 0≤j then(if j<(1024:Int) then(if(decide ((nth (.int .i64) k j)=(nth (.int .i64) l j)))=true then(some (.brk (k,l,bM (j+(1:Int)),m))) else(aG (U:=dA×dA×Int×kf×(List kf)) (gG dQ (k,l,j,(j,((0:Int),())),m)) fun⟨c,d,e,b,a⟩=>if(List.length a+List.length [b])*16≤aF then(some (.brk (c,d,e,a++[b]))) else none)) else none) else none) else none) else none) fun⟨f,g,h,i⟩=>Rt (f,g,h,i)) else(some (.brk m))
def uK(a0:dA)(a1:dA):Option (List kf):=
 aG (U:=List kf) (ln dQ (a0,a1,(0:Int),([]:List kf))) fun v1=>some v1
def IS:SS:=⟨50,90,[(0,(.aZ dV)),(1,(.aZ dV)),(4,(.own 67)),(5,(.val (.int .i64))),(6,(.ptr 22 []))],[(22,(.var oR (.val oR))),(67,(.row 41 16 oR))],[]⟩
def MX:SS:=⟨50,90,[(4,(.own 68))],[(68,(.row 41 16 oR))],[]⟩
def MY:SS:=⟨50,90,[(0,(.aZ dV)),(1,(.aZ dV)),(4,(.own 66)),(5,(.val (.int .i64)))],[(66,(.row 41 16 oR))],[]⟩
def MZ:SS:=⟨50,90,[(0,(.aZ dV)),(1,(.aZ dV)),(4,(.own 67)),(5,(.val (.int .i64)))],[(67,(.row 41 16 oR))],[]⟩
def IT:SS:=⟨50,90,[(4,(.val (.slice 16 oR)))],[],[]⟩
def GL:aH:=aB G [.tmp 4] 62 [(.aZ dV),(.aZ dV)] [] 90 IT [] (.bE (fun d=>uK d.1 d.2.1))
theorem GM:GL.holds Tryz.prog gl:=
 aH.of tied (H:=⟨[(10,⟨[],[],[],none,[(0,9999)],[],[]⟩)],[(11,IS),(12,MX)],[(1,MY)],[(2,⟨MZ,fun _=>dQ⟩),(6,⟨IS,fun _=>dQ⟩)],[],[]⟩) (hold (l:=[]) trivial) aE rfl Tryz.call62 Tryz.func62 rfl rfl rfl rfl (fun _=>by kernel_rfl) (fun _=>by kernel_rfl)
end Go.Proofs.YtadeibjelmcdgaaGreat
