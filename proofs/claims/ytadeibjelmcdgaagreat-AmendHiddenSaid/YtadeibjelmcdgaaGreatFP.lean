/- Made by program (dec6.py): walks -/
import Derived.Test.YtadeibjelmcdgaaGreatUC
noncomputable section
namespace Go.Proofs.YtadeibjelmcdgaaGreat
open Go.Ax
def yE:Nat→((List aM)×Int×Int×(List aM)×Int×Int×dA×aM)→Option (ct ((List aM)×(List aM)×Int×Int×dA) (ct ((List aM)×dA) dA)):=aL fun rec8 ⟨d,e,a,f,g,h,c,b⟩=>if(decide (a<(yW b.2.2.1.2.1 (1024:Int))))=true then(Option.bind (α:=Bool) (if 0≤a then(if a<(1024:Int) then(if(decide ((nth (.int .i64) c a)=(0:Int)))=true then(some true) else(if 0≤a then(if a<(1024:Int) then(if 0≤(bM ((nth (.int .i64) c a) -(1:Int))) then(if(bM ((nth (.int .i64) c a) -(1:Int)))<(List.length d:Int) then(Option.bind (f21 (nth aP d (bM ((nth (.int .i64) c a) -(1:Int)))) b) fun y9=>some (decide (y9≤(0:Int)))) else none) else none) else none) else none)) else none) else none) fun v10=>if v10=true then(if 0≤a then(if a<(1024:Int) then(rec8 (d,e,bM (a+(1:Int)),f,g,h,List.set c (Int.toNat a) (bM (e+(1:Int))),b)) else none) else none) else(rec8 (d,e,bM (a+(1:Int)),f,g,h,c,b))) else(some (.brk (d,f,g,h,c)))
def k8:Nat→((List aM)×(List aM)×Int×Int×dA)→Option (ct ((List aM)×dA) dA):=aL fun rec5 ⟨i,h,g,f,j⟩=>if(decide (f<g))=true then(aG (U:=(List aM)×(List aM)×Int×Int×dA) (if 0≤f then(if f<(List.length h:Int) then(yE dQ (i,f,imax (((((nth aP h f).2).2).1).1) (0:Int),h,g,f,j,nth aP h f)) else none) else none) fun⟨a,b,c,d,e⟩=>rec5 (a,b,c,bM (d+(1:Int)),e)) else(some (.brk (i,j)))
def jM:Nat→((List aM)×Int×dA×dA)→Option (ct dA dA):=aL fun rec13 ⟨c,a,b,d⟩=>if(decide (a<(1024:Int)))=true then(if 0≤a then(if a<(1024:Int) then(if 0≤a then(if a<(1024:Int) then(if(decide ((0:Int)<(nth (.int .i64) b a)))=true then(if 0≤a then(if a<(1024:Int) then(if 0≤(bM ((nth (.int .i64) b a) -(1:Int))) then(if(bM ((nth (.int .i64) b a) -(1:Int)))<(List.length c:Int) then(if 0≤a then(if a<(1024:Int) then(rec13 (c,bM (a+(1:Int)),b,List.set (List.set d (Int.toNat a) (-1:Int)) (Int.toNat a) (imax (((nth aP c (bM ((nth (.int .i64) b a) -(1:Int)))).2).1) (-1:Int)))) else none) else none) else none) else none) else none) else none) else(rec13 (c,bM (a+(1:Int)),b,List.set d (Int.toNat a) (-1:Int)))) else none) else none) else none) else none) else(some (.brk d))
def tk(a0:List aM)(a1:aW)(a2:Int):Option dA:=
 Option.bind (nP a0 a1 a2) fun⟨a,b,c⟩=>Option.bind (gr a b c) fun y2=>aG (U:=(List aM)×dA) (k8 (Int.toNat (List.length y2:Int)+1) (y2,y2,(List.length y2:Int),(0:Int),Ty.bL dV)) fun⟨d,e⟩=>aG (U:=dA) (jM (Int.toNat (1024:Int)+1) (d,(0:Int),e,Ty.bL dV)) fun v11=>some v11
def Hy:SS:=⟨80,120,[(7,(.ptr 23 [])),(8,(.val (.slice 64 aP))),(19,(.val (.slice 64 aP))),(20,(.val (.int .i64))),(21,(.val (.int .i64)))],[(23,(.var dV (.val dV)))],[]⟩
def JO:SS:=⟨80,120,[(7,(.ptr 23 [])),(8,(.val (.slice 64 aP)))],[(23,(.var dV (.val dV)))],[]⟩
def JP:SS:=⟨80,120,[(12,(.ptr 28 []))],[(28,(.var dV (.val dV)))],[]⟩
def JQ:SS:=⟨80,120,[(7,(.ptr 23 [])),(8,(.val (.slice 64 aP))),(9,(.val (.int .i64))),(10,(.ptr 26 [])),(11,(.val (.int .i64))),(19,(.val (.slice 64 aP))),(20,(.val (.int .i64))),(21,(.val (.int .i64)))],[(23,(.var dV (.val dV))),(26,(.var aP (.val aP)))],[]⟩
def JR:SS:=⟨80,120,[(7,(.ptr 23 [])),(8,(.val (.slice 64 aP))),(12,(.ptr 28 [])),(59,(.val (.int .i64)))],[(23,(.var dV (.val dV))),(28,(.var dV (.val dV)))],[]⟩
def Hz:SS:=⟨80,120,[(6,(.ptr 28 []))],[(28,(.var dV (.val dV)))],[]⟩
def Fu:aH:=aB G [.tmp 6] 63 [(.val (.slice 64 aP)),(.val bC),(.val (.int .i64))] [] 120 Hz [28] (.bE (fun d=>tk d.1 d.2.1 d.2.2.1))
theorem Fv:Fu.holds Tryz.prog gl:=
 aH.of tied (H:=⟨[(2,⟨[],[(4,17,(.aK .func))],[⟨[0],[],[(19,33),(20,96),(21,97)],[],[]⟩,⟨[1],[],[],[],[]⟩],none,[],[],[]⟩),(9,⟨[],[],[⟨[2],[],[],[],[]⟩],some [(53,.bool)],[],[],[]⟩)],[(11,Hy),(12,JO),(20,JP)],[],[(4,⟨Hy,fun u4=>Int.toNat u4.2.2.1+1⟩),(7,⟨JQ,fun _=>dQ⟩),(14,⟨JR,fun _=>Int.toNat (1024:Int)+1⟩)],[],[]⟩) (hold (l:=[uG,rB,IQ]) ⟨BC,zR,JA,trivial⟩) aE rfl Tryz.call63 Tryz.func63 rfl rfl rfl rfl (fun _=>by kernel_rfl) (fun _=>by kernel_rfl)
end Go.Proofs.YtadeibjelmcdgaaGreat
