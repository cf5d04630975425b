/- Made by program (dec6.py): walks -/
import Derived.Test.YtgdcjlldafmomaaGreatF2
noncomputable section
namespace Go.Proofs.YtgdcjlldafmomaaGreat
open Go.Ax
def f155(a0:gB)(a1:gB):Zk:=
 Option.bind (α:=Bool) (Option.bind (f97 a0.1 a1.1) fun y1=>if y1=true then(if(decide (a0.2.1=a1.2.1))=true then(Option.bind (f63 a0.2.2.1 a1.2.2.1) fun y2=>if y2=true then(some (decide (a0.2.2.2.1=a1.2.2.2.1))) else(some false)) else(some false)) else(some false)) fun v3=>some v3
def OI:SS:=⟨31,71,[(4,vB)],[],[]⟩
def OJ:aT:=aD G [.tmp 4] 155 [.val dy,.val dy] [] 71 OI [] (.bx (u2 f155))
theorem OL:hS OJ:=
 cO (hR [hD 1 4 [cA 0,cA 1]]) (hq ML (hq V4 hz)) aF Tryz.call155 Tryz.func155
def xL:Nat→List gB×List gB×ZY→Zt:=aH fun Z9 ⟨d,c,b,a⟩=>if(decide (a<b))=true then(if 0≤a then(if a<(List.length c:Int) then(if 0≤a then(if a<(List.length d:Int) then(Option.bind (f155 (nth dy c a) (nth dy d a)) fun y4=>if(!y4)=true then(bP (some false)) else(Z9 (d,c,b,aV (a+1)))) else none) else none) else none) else none) else(some (.brk ()))
def tn(a0:List gB)(a1:List gB):Zk:=
 if(!decide ((List.length a0:Int)=(List.length a1:Int)))=true then(some false) else(aE (U:=Unit) (xL (Int.toNat (List.length a0:Int)+1) (a1,a0,(List.length a0:Int),0)) fun _v1=>some true)
def ON:SS:=⟨32,72,[(1,.val (.slice 72 dy)),(2,.func 155 .nil .nil),(15,.val (.slice 72 dy)),tI 16,tI 17],[],[]⟩
def EV:aT:=aD G [.tmp 6] 154 [.val (.slice 72 dy),.val (.slice 72 dy),.func 155 .nil .nil] [] 72 MO [] (.bx (u2 tn))
theorem EW:hS EV:=
 cO ⟨[hA 7 0],[(10,MN)],[],[(4,⟨ON,fun u2=>Int.toNat u2.2.2.1+1⟩)],[],[]⟩ (hq OL hz) aF Tryz.call154 Tryz.func154
def f100(a0:jt)(a1:jt):Zk:=
 Option.bind (α:=Bool) (if(decide (a0.1=a1.1))=true then(if(decide (a0.2.1=a1.2.1))=true then(if(decide (a0.2.2.1=a1.2.2.1))=true then(if(decide (a0.2.2.2.1=a1.2.2.2.1))=true then(Option.bind (vn a0.2.2.2.2.1 a1.2.2.2.2.1) fun y1=>if y1=true then(Option.bind (tn a0.2.2.2.2.2.1 a1.2.2.2.2.2.1) fun y2=>some y2) else(some false)) else(some false)) else(some false)) else(some false)) else(some false)) fun v3=>some v3
def OO:SS:=⟨45,85,[(4,vB)],[],[]⟩
def OP:aT:=aD G [.tmp 4] 100 [.val bB,.val bB] [] 85 OO [] (.bx (u2 f100))
theorem OQ:hS OP:=
 cO (hR [hD 1 4 [cA 0,cA 1]]) (hq Ht (hq EW hz)) aF Tryz.call100 Tryz.func100
def By:Nat→ZA×ZA×ZY→Zt:=aH fun Z9 ⟨d,c,b,a⟩=>if(decide (a<b))=true then(if 0≤a then(if a<(List.length c:Int) then(if 0≤a then(if a<(List.length d:Int) then(Option.bind (f100 (nth bB c a) (nth bB d a)) fun y4=>if(!y4)=true then(bP (some false)) else(Z9 (d,c,b,aV (a+1)))) else none) else none) else none) else none) else(some (.brk ()))
def xM(a0:ZA)(a1:ZA):Zk:=
 if(!decide ((List.length a0:Int)=(List.length a1:Int)))=true then(some false) else(aE (U:=Unit) (By (Int.toNat (List.length a0:Int)+1) (a1,a0,(List.length a0:Int),0)) fun _v1=>some true)
def EX:SS:=⟨32,72,[],[],[]⟩
def OR:SS:=⟨32,72,[(1,.val (.slice 96 bB)),(2,.func 100 .nil .nil),(15,.val (.slice 96 bB)),tI 16,tI 17],[],[]⟩
def EY:SS:=⟨32,72,[(6,vB)],[],[]⟩
def Jj:aT:=aD G [.tmp 6] 99 [.val (.slice 96 bB),.val (.slice 96 bB),.func 100 .nil .nil] [] 72 EY [] (.bx (u2 xM))
theorem Jk:hS Jj:=
 cO ⟨[hA 7 0],[(10,EX)],[],[(4,⟨OR,fun u2=>Int.toNat u2.2.2.1+1⟩)],[],[]⟩ (hq OQ hz) aF Tryz.call99 Tryz.func99
def EZ:Nat→Zv×Zv×ZY→Zt:=aH fun Z9 ⟨c,d,b,a⟩=>if(decide (a<b))=true then(if 0≤a then(if a<(List.length c:Int) then(if 0≤a then(if a<(List.length d:Int) then(if(!aU aK (nth aK c a) (nth aK d a))=true then(bP (some false)) else(Z9 (c,d,b,aV (a+1)))) else none) else none) else none) else none) else(some (.brk ()))
def f156(a0:Zv)(a1:Zv):Zk:=
 if(!decide ((List.length a0:Int)=(List.length a1:Int)))=true then(some false) else(aE (U:=Unit) (EZ (Int.toNat (List.length a0:Int)+1) (a0,a1,(List.length a0:Int),0)) fun _v1=>some true)
def OS:SS:=⟨26,66,[(0,.val (.slice 96 aK)),(1,.val (.slice 96 aK)),tI 12,tI 13],[],[]⟩
def OT:aT:=aD G [.tmp 4] 156 [.val (.slice 96 aK),.val (.slice 96 aK)] [] 66 xf [] (.bx (u2 f156))
theorem OU:hS OT:=
 cO ⟨[],[(9,xe)],[],[(4,⟨OS,fun u2=>Int.toNat u2.2.2.1+1⟩)],[],[]⟩ hz aF Tryz.call156 Tryz.func156
def E6:Nat→Zx×Zx×ZY→Zt:=aH fun Z9 ⟨c,d,b,a⟩=>if(decide (a<b))=true then(if 0≤a then(if a<(List.length c:Int) then(if 0≤a then(if a<(List.length d:Int) then(if(!aU aM (nth aM c a) (nth aM d a))=true then(bP (some false)) else(Z9 (c,d,b,aV (a+1)))) else none) else none) else none) else none) else(some (.brk ()))
def f157(a0:Zx)(a1:Zx):Zk:=
 if(!decide ((List.length a0:Int)=(List.length a1:Int)))=true then(some false) else(aE (U:=Unit) (E6 (Int.toNat (List.length a0:Int)+1) (a0,a1,(List.length a0:Int),0)) fun _v1=>some true)
def OV:SS:=⟨26,66,[(0,.val (.slice 120 aM)),(1,.val (.slice 120 aM)),tI 12,tI 13],[],[]⟩
def OW:aT:=aD G [.tmp 4] 157 [.val (.slice 120 aM),.val (.slice 120 aM)] [] 66 xf [] (.bx (u2 f157))
theorem OX:hS OW:=
 cO ⟨[],[(9,xe)],[],[(4,⟨OV,fun u2=>Int.toNat u2.2.2.1+1⟩)],[],[]⟩ hz aF Tryz.call157 Tryz.func157
def E7:Nat→Zy×Zy×ZY→Zt:=aH fun Z9 ⟨c,d,b,a⟩=>if(decide (a<b))=true then(if 0≤a then(if a<(List.length c:Int) then(if 0≤a then(if a<(List.length d:Int) then(if(!aU aW (nth aW c a) (nth aW d a))=true then(bP (some false)) else(Z9 (c,d,b,aV (a+1)))) else none) else none) else none) else none) else(some (.brk ()))
def f158(a0:Zy)(a1:Zy):Zk:=
 if(!decide ((List.length a0:Int)=(List.length a1:Int)))=true then(some false) else(aE (U:=Unit) (E7 (Int.toNat (List.length a0:Int)+1) (a0,a1,(List.length a0:Int),0)) fun _v1=>some true)
def OY:SS:=⟨26,66,[(0,.val (.slice 80 aW)),(1,.val (.slice 80 aW)),tI 12,tI 13],[],[]⟩
def OZ:aT:=aD G [.tmp 4] 158 [.val (.slice 80 aW),.val (.slice 80 aW)] [] 66 xf [] (.bx (u2 f158))
theorem O0:hS OZ:=
 cO ⟨[],[(9,xe)],[],[(4,⟨OY,fun u2=>Int.toNat u2.2.2.1+1⟩)],[],[]⟩ hz aF Tryz.call158 Tryz.func158
def f102(a0:cF)(a1:cF):Zk:=
 Option.bind (α:=Bool) (if(decide (a0.1=a1.1))=true then(if(decide (a0.2.1=a1.2.1))=true then(Option.bind (f156 a0.2.2.1 a1.2.2.1) fun y1=>if y1=true then(Option.bind (f157 a0.2.2.2.1 a1.2.2.2.1) fun y2=>if y2=true then(Option.bind (f158 a0.2.2.2.2.1 a1.2.2.2.2.1) fun y3=>some y3) else(some false)) else(some false)) else(some false)) else(some false)) fun v4=>some v4
def O3:SS:=⟨38,78,[(4,vB)],[],[]⟩
def O4:aT:=aD G [.tmp 4] 102 [.val bu,.val bu] [] 78 O3 [] (.bx (u2 f102))
theorem O5:hS O4:=
 cO (hR [hD 1 4 [cA 0,cA 1,cA 2]]) (hq OU (hq OX (hq O0 hz))) aF Tryz.call102 Tryz.func102
def xN:Nat→Zm×Zm×ZY→Zt:=aH fun Z9 ⟨d,c,b,a⟩=>if(decide (a<b))=true then(if 0≤a then(if a<(List.length c:Int) then(if 0≤a then(if a<(List.length d:Int) then(Option.bind (f102 (nth bu c a) (nth bu d a)) fun y4=>if(!y4)=true then(bP (some false)) else(Z9 (d,c,b,aV (a+1)))) else none) else none) else none) else none) else(some (.brk ()))
def tp(a0:Zm)(a1:Zm):Zk:=
 if(!decide ((List.length a0:Int)=(List.length a1:Int)))=true then(some false) else(aE (U:=Unit) (xN (Int.toNat (List.length a0:Int)+1) (a1,a0,(List.length a0:Int),0)) fun _v1=>some true)
def O6:SS:=⟨32,72,[(1,.val (.slice 96 bu)),(2,.func 102 .nil .nil),(15,.val (.slice 96 bu)),tI 16,tI 17],[],[]⟩
def E8:aT:=aD G [.tmp 6] 101 [.val (.slice 96 bu),.val (.slice 96 bu),.func 102 .nil .nil] [] 72 EY [] (.bx (u2 tp))
theorem E9:hS E8:=
 cO ⟨[hA 7 0],[(10,EX)],[],[(4,⟨O6,fun u2=>Int.toNat u2.2.2.1+1⟩)],[],[]⟩ (hq O5 hz) aF Tryz.call101 Tryz.func101
def Fa:Nat→Zq×Zq×ZY→Zt:=aH fun Z9 ⟨c,d,b,a⟩=>if(decide (a<b))=true then(if 0≤a then(if a<(List.length c:Int) then(if 0≤a then(if a<(List.length d:Int) then(if(!aU aO (nth aO c a) (nth aO d a))=true then(bP (some false)) else(Z9 (c,d,b,aV (a+1)))) else none) else none) else none) else none) else(some (.brk ()))
def f159(a0:Zq)(a1:Zq):Zk:=
 if(!decide ((List.length a0:Int)=(List.length a1:Int)))=true then(some false) else(aE (U:=Unit) (Fa (Int.toNat (List.length a0:Int)+1) (a0,a1,(List.length a0:Int),0)) fun _v1=>some true)
def O7:aT:=aD G [.tmp 4] 159 [.val (.slice 56 aO),.val (.slice 56 aO)] [] 66 xf [] (.bx (u2 f159))
theorem O8:hS O7:=
 cO ⟨[],[(9,xe)],[],[(4,⟨MM,fun u2=>Int.toNat u2.2.2.1+1⟩)],[],[]⟩ hz aF Tryz.call159 Tryz.func159
def f104(a0:nC)(a1:nC):Zk:=
 Option.bind (α:=Bool) (if(decide (a0.1=a1.1))=true then(if(decide (a0.2.1=a1.2.1))=true then(if(decide (a0.2.2.1=a1.2.2.1))=true then(if(decide (a0.2.2.2.1=a1.2.2.2.1))=true then(Option.bind (f159 a0.2.2.2.2.1 a1.2.2.2.2.1) fun y1=>some y1) else(some false)) else(some false)) else(some false)) else(some false)) fun v2=>some v2
def O9:SS:=⟨38,78,[(4,vB)],[],[]⟩
def Pa:aT:=aD G [.tmp 4] 104 [.val dR,.val dR] [] 78 O9 [] (.bx (u2 f104))
theorem Pb:hS Pa:=
 cO (hR [hD 1 4 [cA 0]]) (hq O8 hz) aF Tryz.call104 Tryz.func104
def xO:Nat→ZE×ZE×ZY→Zt:=aH fun Z9 ⟨d,c,b,a⟩=>if(decide (a<b))=true then(if 0≤a then(if a<(List.length c:Int) then(if 0≤a then(if a<(List.length d:Int) then(Option.bind (f104 (nth dR c a) (nth dR d a)) fun y4=>if(!y4)=true then(bP (some false)) else(Z9 (d,c,b,aV (a+1)))) else none) else none) else none) else none) else(some (.brk ()))
def tq(a0:ZE)(a1:ZE):Zk:=
 if(!decide ((List.length a0:Int)=(List.length a1:Int)))=true then(some false) else(aE (U:=Unit) (xO (Int.toNat (List.length a0:Int)+1) (a1,a0,(List.length a0:Int),0)) fun _v1=>some true)
def Pc:SS:=⟨32,72,[(1,.val (.slice 72 dR)),(2,.func 104 .nil .nil),(15,.val (.slice 72 dR)),tI 16,tI 17],[],[]⟩
def Fb:aT:=aD G [.tmp 6] 103 [.val (.slice 72 dR),.val (.slice 72 dR),.func 104 .nil .nil] [] 72 EY [] (.bx (u2 tq))
theorem Fe:hS Fb:=
 cO ⟨[hA 7 0],[(10,EX)],[],[(4,⟨Pc,fun u2=>Int.toNat u2.2.2.1+1⟩)],[],[]⟩ (hq Pb hz) aF Tryz.call103 Tryz.func103
def Ff:Nat→List lN×List lN×ZY→Zt:=aH fun Z9 ⟨c,d,b,a⟩=>if(decide (a<b))=true then(if 0≤a then(if a<(List.length c:Int) then(if 0≤a then(if a<(List.length d:Int) then(if(!aU dz (nth dz c a) (nth dz d a))=true then(bP (some false)) else(Z9 (c,d,b,aV (a+1)))) else none) else none) else none) else none) else(some (.brk ()))
def f160(a0:List lN)(a1:List lN):Zk:=
 if(!decide ((List.length a0:Int)=(List.length a1:Int)))=true then(some false) else(aE (U:=Unit) (Ff (Int.toNat (List.length a0:Int)+1) (a0,a1,(List.length a0:Int),0)) fun _v1=>some true)
def Pd:SS:=⟨26,66,[(0,.val (.slice 48 dz)),(1,.val (.slice 48 dz)),tI 12,tI 13],[],[]⟩
def Pe:aT:=aD G [.tmp 4] 160 [.val (.slice 48 dz),.val (.slice 48 dz)] [] 66 xf [] (.bx (u2 f160))
theorem Pf:hS Pe:=
 cO ⟨[],[(9,xe)],[],[(4,⟨Pd,fun u2=>Int.toNat u2.2.2.1+1⟩)],[],[]⟩ hz aF Tryz.call160 Tryz.func160
def f106(a0:kY)(a1:kY):Zk:=
 Option.bind (α:=Bool) (if(decide (a0.1=a1.1))=true then(if(decide (a0.2.2.1=a1.2.2.1))=true then(Option.bind (f160 a0.2.1 a1.2.1) fun y1=>some y1) else(some false)) else(some false)) fun v2=>some v2
def Pg:SS:=⟨24,64,[(4,vB)],[],[]⟩
def Ph:aT:=aD G [.tmp 4] 106 [.val cQ,.val cQ] [] 64 Pg [] (.bx (u2 f106))
theorem Pj:hS Ph:=
 cO (hR [hD 1 4 [cA 0]]) (hq Pf hz) aF Tryz.call106 Tryz.func106
def xP:Nat→Zz×Zz×ZY→Zt:=aH fun Z9 ⟨d,c,b,a⟩=>if(decide (a<b))=true then(if 0≤a then(if a<(List.length c:Int) then(if 0≤a then(if a<(List.length d:Int) then(Option.bind (f106 (nth cQ c a) (nth cQ d a)) fun y4=>if(!y4)=true then(bP (some false)) else(Z9 (d,c,b,aV (a+1)))) else none) else none) else none) else none) else(some (.brk ()))
def tu(a0:Zz)(a1:Zz):Zk:=
 if(!decide ((List.length a0:Int)=(List.length a1:Int)))=true then(some false) else(aE (U:=Unit) (xP (Int.toNat (List.length a0:Int)+1) (a1,a0,(List.length a0:Int),0)) fun _v1=>some true)
def Pk:SS:=⟨32,72,[(1,.val (.slice 48 cQ)),(2,.func 106 .nil .nil),(15,.val (.slice 48 cQ)),tI 16,tI 17],[],[]⟩
def Fg:aT:=aD G [.tmp 6] 105 [.val (.slice 48 cQ),.val (.slice 48 cQ),.func 106 .nil .nil] [] 72 EY [] (.bx (u2 tu))
theorem Fh:hS Fg:=
 cO ⟨[hA 7 0],[(10,EX)],[],[(4,⟨Pk,fun u2=>Int.toNat u2.2.2.1+1⟩)],[],[]⟩ (hq Pj hz) aF Tryz.call105 Tryz.func105
def f62(a0:cK)(a1:cK):Zk:=
 Option.bind (α:=Bool) (Option.bind (f97 a0.1 a1.1) fun y1=>if y1=true then(Option.bind (f98 a0.2.1 a1.2.1) fun y2=>if y2=true then(Option.bind (xM a0.2.2.1 a1.2.2.1) fun y3=>if y3=true then(Option.bind (tp a0.2.2.2.1 a1.2.2.2.1) fun y4=>if y4=true then(Option.bind (tq a0.2.2.2.2.1 a1.2.2.2.2.1) fun y5=>if y5=true then(Option.bind (tu a0.2.2.2.2.2.1 a1.2.2.2.2.2.1) fun y6=>some y6) else(some false)) else(some false)) else(some false)) else(some false)) else(some false)) fun v7=>some v7
def Pm:SS:=⟨45,85,[(4,vB)],[],[]⟩
def Wx:aT:=aD G [.tmp 4] 62 [.val fe,.val fe] [] 85 Pm [] (.bx (u2 f62))
theorem VF:hS Wx:=
 cO (hR [hD 1 4 [cA 0,cA 1,cA 2,cA 3,cA 4,cA 5]]) (hq ML (hq Yr (hq Jk (hq E9 (hq Fe (hq Fh hz)))))) aF Tryz.call62 Tryz.func62
def f56(a0:cK):ZM:=
 Option.bind (f80 a0) fun⟨b,a⟩=>if(!decide (a=(0:Int)))=true then(some a) else(Option.bind (f62 b a0) fun y2=>if(!y2)=true then(some (160:Int)) else(some (0:Int)))
def Pn:SS:=⟨16,56,[tI 2],[],[]⟩
def Wy:aT:=aD G [.tmp 2] 56 [.val fe] [] 56 Pn [] (.bx (u1 f56))
theorem Wz:hS Wy:=
 cO (hR [hA 1 0,hA 4 1]) (hq Yo (hq VF hz)) aF Tryz.call56 Tryz.func56
def f132(a0:kY):Zk:=
 some (decide ((64:Int)<(List.length a0.2.1:Int)))
def Po:SS:=⟨7,47,[(2,vB)],[],[]⟩
def Pp:aT:=aD G [.tmp 2] 132 [.val cQ] [] 47 Po [] (.bx (u1 f132))
theorem Pq:hS Pp:=
 cO (hR []) hz aF Tryz.call132 Tryz.func132
def xQ:Nat→Zz×ZY→Option (cz Unit Int):=aH fun Z9 ⟨c,b,a⟩=>if(decide (a<b))=true then(if 0≤a then(if a<(List.length c:Int) then(Option.bind (f132 (nth cQ c a)) fun y4=>if y4=true then(bP (some a)) else(Z9 (c,b,aV (a+1)))) else none) else none) else(some (.brk ()))
def tx(a0:Zz):ZM:=
 aE (U:=Unit) (xQ (Int.toNat (List.length a0:Int)+1) (a0,(List.length a0:Int),0)) fun _v1=>some (-1:Int)
def Pr:SS:=⟨19,59,[],[],[]⟩
def Ps:SS:=⟨19,59,[(0,.val (.slice 48 cQ)),(1,.func 132 .nil .nil),tI 7,tI 8],[],[]⟩
def Pt:SS:=⟨19,59,[tI 4],[],[]⟩
def Fi:aT:=aD G [.tmp 4] 202 [.val (.slice 48 cQ),.func 132 .nil .nil] [] 59 Pt [] (.bx (u1 tx))
theorem Fj:hS Fi:=
 cO ⟨[hA 4 0],[(7,Pr)],[],[(2,⟨Ps,fun u2=>Int.toNat u2.2.1+1⟩)],[],[]⟩ (hq Pq hz) aF Tryz.call202 Tryz.func202
def oP(a0:Zz):Zk:=
 Option.bind (tx a0) fun y1=>some (decide ((0:Int)≤y1))
def CU:SS:=⟨9,49,[(4,vB)],[],[]⟩
def Fk:aT:=aD G [.tmp 4] 131 [.val (.slice 48 cQ),.func 132 .nil .nil] [] 49 CU [] (.bx (u1 oP))
theorem Fl:hS Fk:=
 cO (hR [hA 1 0]) (hq Fj hz) aF Tryz.call131 Tryz.func131
def f81(a0:cT):Zk:=
 Option.bind (α:=Bool) (if(decide ((8:Int)<(List.length a0.1.1:Int)))=true then(some true) else(if(decide ((64:Int)<(List.length a0.1.2.1:Int)))=true then(some true) else(if(decide ((16:Int)<(List.length a0.1.2.2.1:Int)))=true then(some true) else(if(decide ((16:Int)<(List.length a0.1.2.2.2.1:Int)))=true then(some true) else(if(decide ((16:Int)<(List.length a0.1.2.2.2.2.1:Int)))=true then(some true) else(some (decide ((8:Int)<(List.length a0.1.2.2.2.2.2.1:Int))))))))) fun v1=>if v1=true then(some false) else(Option.bind (oP a0.1.2.2.2.2.2.1) fun y2=>some (!y2))
def Pu:SS:=⟨48,88,[(2,vB)],[],[]⟩
def WA:aT:=aD G [.tmp 2] 81 [.val cM] [] 88 Pu [] (.bx (u1 f81))
theorem WC:hS WA:=
 cO (hR [hD 1 42 [],hA 3 0]) (hq Fl hz) aF Tryz.call81 Tryz.func81
def f85(a0:cT)(a1:fm):Zk:=
 Option.bind (α:=Bool) (if(decide ((1:Int)≤a1.2.2.2.2.1))=true then(if(decide (a1.2.2.2.2.1≤(1099511627776:Int)))=true then(if(decide ((0:Int)≤a1.2.2.2.1))=true then(if(decide (a1.2.2.2.1<(List.length a0.1.2.1:Int)))=true then(if 0≤a1.2.2.2.1 then(if a1.2.2.2.1<(List.length a0.1.2.1:Int) then(some (decide ((nth aO a0.1.2.1 a1.2.2.2.1).2.2.2.2.1=(1:Int)))) else none) else none) else(some false)) else(some false)) else(some false)) else(some false)) fun v1=>some v1
def Pv:SS:=⟨38,78,[(4,vB)],[],[]⟩
def WD:aT:=aD G [.tmp 4] 85 [.val cM,.val aO] [] 78 Pv [] (.bx (u2 f85))
theorem VG:hS WD:=
 cO (hR [hD 1 4 []]) hz aF Tryz.call85 Tryz.func85
def l4(a0:fm)(a1:cT):IK:=
 Option.bind (f85 a1 a0) fun y1=>some (!y1,a1)
def Pw:SS:=⟨8,48,[(3,vB)],[(0,.var (.aN .func) (.cD 85 cM))],[]⟩
def Fm:aT:=aD G [.tmp 3] 138 [.val aO,pP 0] [(0,.var (.aN .func) (.cD 85 cM))] 48 Pw [0] (.bx (u2 l4))
theorem Fo:hS Fm:=
 cO (hR [hA 1 0]) (hq VG hz) aF Tryz.call138 Tryz.func138
def xR:Nat→Zq×Int×xy→Option (cz cT xy):=aH fun Z9 ⟨e,d,c,f⟩=>if(decide (c<d))=true then(if 0≤c then(if c<(List.length e:Int) then(Option.bind (l4 (nth aO e c) f) fun⟨a,b⟩=>if a=true then(bP (some (c,b))) else(Z9 (e,d,aV (c+1),b))) else none) else none) else(some (.brk f))
def tz(a0:Zq)(a1:cT):Option xy:=
 aE (U:=cT) (xR (Int.toNat (List.length a0:Int)+1) (a0,(List.length a0:Int),0,a1)) fun v1=>some ((-1:Int),v1)
def Px:SS:=⟨19,59,[],[(0,.var (.aN .func) (.cD 85 cM))],[]⟩
def Py:SS:=⟨19,59,[(0,.val (.slice 56 aO)),(1,.func 138 .nil (.cons (pP 0) .nil)),tI 7,tI 8],[(0,.var (.aN .func) (.cD 85 cM))],[]⟩
def Pz:SS:=⟨19,59,[tI 4],[(0,.var (.aN .func) (.cD 85 cM))],[]⟩
def Fp:aT:=aD G [.tmp 4] 206 [.val (.slice 56 aO),.func 138 .nil (.cons (pP 0) .nil)] [(0,.var (.aN .func) (.cD 85 cM))] 59 Pz [0] (.bx (u2 tz))
theorem Fq:hS Fp:=
 cO ⟨[hE 4 [cB 0 [(0,0)] []]],[(7,Px)],[],[(2,⟨Py,fun u2=>Int.toNat u2.2.1+1⟩)],[],[]⟩ (hq Fo hz) aF Tryz.call206 Tryz.func206
def tA(a0:Zq)(a1:cT):IK:=
 Option.bind (tz a0 a1) fun⟨a,b⟩=>some (decide ((0:Int)≤a),b)
def PA:SS:=⟨9,49,[(4,vB)],[(0,.var (.aN .func) (.cD 85 cM))],[]⟩
def Fs:aT:=aD G [.tmp 4] 137 [.val (.slice 56 aO),.func 138 .nil (.cons (pP 0) .nil)] [(0,.var (.aN .func) (.cD 85 cM))] 49 PA [0] (.bx (u2 tA))
theorem Ft:hS Fs:=
 cO (hR [hE 1 [cB 0 [(0,0)] []]]) (hq Fq hz) aF Tryz.call137 Tryz.func137
def tC(a0:Zq)(a1:cT):Zk:=
 Option.bind (tA a0 a1) fun⟨a,_⟩=>some (!a)
def Jl:aT:=aD G [.tmp 4] 84 [.val (.slice 56 aO),.cD 85 cM] [] 49 CU [] (.bx (u2 tC))
theorem Jm:hS Jl:=
 cO (hR [hE 1 [cB 0 [(0,19)] []]]) (hq Ft hz) aF Tryz.call84 Tryz.func84
def Fu:Option (List (Option Nat)):=
 some [none,some 176,some 177,some 178,some 179]
def PB:SS:=⟨2,42,[tP 0 16],[(16,.var (.fns 5) (.val (.fns 5)))],[]⟩
def Fv:aT:=aD G [.cell 0 223] 117 [] [] 42 PB [] (.bx (fun _=>Fu))
theorem Fw:hS Fv:=
 cO (hR []) hz aF Tryz.call117 Tryz.func117
def tD:Nat→ZH×Int×Int×List (Zg×Bool)→Zt:=aH fun Z9 ⟨c,b,a,d⟩=>if(decide (a<b))=true then(if 0≤a then(if a<(List.length c:Int) then(if(bJ .str .bool (nth .str c a) d)=true then(bP (some false)) else(if List.length d+1≤aC then(Z9 (c,b,aV (a+1),bz .str (nth .str c a) true d)) else none)) else none) else none) else(some (.brk ()))
def f180(a0:ZH):Zk:=
 aE (U:=Unit) (tD (Int.toNat (List.length a0:Int)+1) (a0,(List.length a0:Int),0,([]:List (Zg×Bool)))) fun _v1=>some true
def PC:SS:=⟨21,61,[],[],[]⟩
def PD:SS:=⟨21,61,[(3,.mp 24),(9,.val (.slice 16 .str)),tI 10,tI 11],[(24,.map .str .bool)],[]⟩
def PE:SS:=⟨21,61,[(2,vB)],[],[]⟩
def PG:aT:=aD G [.tmp 2] 180 [.val (.slice 16 .str)] [] 61 PE [] (.bx (u1 f180))
theorem PH:hS PG:=
 cO ⟨[],[(9,PC)],[],[(3,⟨PD,fun u2=>Int.toNat u2.2.1+1⟩)],[],[]⟩ hz aF Tryz.call180 Tryz.func180
def f179(a0:gI)(_a1:Int):Zk:=
 Option.bind (α:=Bool) (if(decide (a0.2.1=(0:Int)))=true then(if(decide (a0.2.2.1=(aV ((List.length a0.2.2.2.2.2.1:Int) -(1:Int)))))=true then(if(decide (a0.2.2.2.2.1=(-1:Int)))=true then(if(decide ((1:Int)≤(List.length a0.2.2.2.2.2.1:Int)))=true then(if(decide ((List.length a0.2.2.2.2.2.1:Int)≤(16:Int)))=true then(Option.bind (f180 a0.2.2.2.2.2.1) fun y1=>some y1) else(some false)) else(some false)) else(some false)) else(some false)) else(some false)) fun v2=>some v2
def PI:SS:=⟨39,79,[(4,vB)],[],[]⟩
def PJ:aT:=aD G [.tmp 4] 179 [.val jP,vI] [] 79 PI [] (.bx (u2 f179))
theorem PK:hS PJ:=
 cO (hR [hD 1 4 [cA 0]]) (hq PH hz) aF Tryz.call179 Tryz.func179
def f178(a0:gI)(_a1:Int):Zk:=
 Option.bind (α:=Bool) (if(decide (a0.2.1=(0:Int)))=true then(if(decide (a0.2.2.1=(4095:Int)))=true then(if(decide (a0.2.2.2.2.1=(-1:Int)))=true then(some (decide ((List.length a0.2.2.2.2.2.1:Int)=(0:Int)))) else(some false)) else(some false)) else(some false)) fun v1=>some v1
def Lw:SS:=⟨24,64,[(4,vB)],[],[]⟩
def PN:aT:=aD G [.tmp 4] 178 [.val jP,vI] [] 64 Lw [] (.bx (u2 f178))
theorem PO:hS PN:=
 cO (hR [hD 1 4 []]) hz aF Tryz.call178 Tryz.func178
def f177(a0:gI)(_a1:Int):Zk:=
 Option.bind (α:=Bool) (if(decide (a0.2.1=(0:Int)))=true then(if(decide (a0.2.2.1=(1023:Int)))=true then(if(decide (a0.2.2.2.2.1=(-1:Int)))=true then(some (decide ((List.length a0.2.2.2.2.2.1:Int)=(0:Int)))) else(some false)) else(some false)) else(some false)) fun v1=>some v1
def PQ:aT:=aD G [.tmp 4] 177 [.val jP,vI] [] 64 Lw [] (.bx (u2 f177))
theorem PR:hS PQ:=
 cO (hR [hD 1 4 []]) hz aF Tryz.call177 Tryz.func177
def f176(a0:gI)(a1:Int):Zk:=
 Option.bind (α:=Bool) (if(decide ((0:Int)≤a0.2.1))=true then(if(decide (a0.2.1≤a0.2.2.1))=true then(if(decide (a0.2.2.1≤(1048576:Int)))=true then(if(decide ((-1:Int)≤a0.2.2.2.2.1))=true then(if(decide (a0.2.2.2.2.1<a1))=true then(some (decide ((List.length a0.2.2.2.2.2.1:Int)=(0:Int)))) else(some false)) else(some false)) else(some false)) else(some false)) else(some false)) fun v1=>some v1
def PT:SS:=⟨37,77,[(4,vB)],[],[]⟩
def PU:aT:=aD G [.tmp 4] 176 [.val jP,vI] [] 77 PT [] (.bx (u2 f176))
theorem PV:hS PU:=
 cO (hR [hD 1 4 []]) hz aF Tryz.call176 Tryz.func176
def f79(a0:cT)(a1:gI):Zk:=
 aE (U:=cT×gI) (Option.bind (α:=Bool) (if(decide (a1.1<(1:Int)))=true then(some true) else(some (decide ((4:Int)<a1.1)))) fun v2=>if v2=true then(bP (some false)) else(some (.brk (a0,a1)))) fun⟨b,a⟩=>if 0≤a.1 then(if a.1<(5:Int) then(if a.1=(0:Int) then none else(if a.1=(1:Int) then(Option.bind (f176 a (List.length b.1.2.1:Int)) fun y6=>some y6) else(if a.1=(2:Int) then(Option.bind (f177 a (List.length b.1.2.1:Int)) fun y5=>some y5) else(if a.1=(3:Int) then(Option.bind (f178 a (List.length b.1.2.1:Int)) fun y4=>some y4) else(if a.1=(4:Int) then(Option.bind (f179 a (List.length b.1.2.1:Int)) fun y3=>some y3) else none))))) else none) else none
def PW:SS:=⟨23,63,[tP 2 18,tP 3 19],[(18,bV cM),(19,bV jP)],[]⟩
def PX:SS:=⟨23,63,[(4,vB)],[],[]⟩
def WE:aT:=aD G [.tmp 4] 79 [.val cM,.val jP] [] 63 PX [] (.bx (u2 f79))
theorem PY:hS WE:=
 cO ⟨[hD 1 12 [],hE 3 [cA 0,⟨[1,2,3,4],[],[],[],[]⟩]],[(3,PW)],[],[],[],[]⟩ (hq Fw (hq PK (hq PO (hq PR (hq PV hz))))) aF Tryz.call79 Tryz.func79
def mZ:Nat→ZF×Int×Int×SE×xy→Option (cz (ZF×Int×xy) (cz Unit Bool)):=aH fun rec9 ⟨c,d,e,b,a,f⟩=>if(decide (a<(4:Int)))=true then(if 0≤a then(if a<(4:Int) then(Option.bind (α:=Bool) (if(decide ((nth (.int .i64) b a)<(0:Int)))=true then(some true) else(some (decide ((9:Int)<(nth (.int .i64) b a))))) fun v10=>if v10=true then(bP (bP (some false))) else(rec9 (c,d,e,b,aV (a+1),f))) else none) else none) else(some (.brk (c,d,e,f)))
def tE:Nat→ZF×Int×xy→Zt:=aH fun aaI ⟨g,f,e,h⟩=>if(decide (e<f))=true then(aE (U:=ZF×Int×xy) (if 0≤e then(if e<(List.length g:Int) then(Option.bind (f79 h (nth du g e).2.1) fun y7=>if(!y7)=true then(bP (bP (some false))) else(mZ (Int.toNat (4:Int)+1) (g,f,e,(nth du g e).2.2.1,0,h))) else none) else none) fun⟨a,b,c,d⟩=>aaI (a,b,aV (c+1),d)) else(some (.brk ()))
def f87(a0:cT)(a1:jt):Zk:=
 aE (U:=cT×jt) (Option.bind (α:=Bool) (if(decide (a1.2.2.1<(0:Int)))=true then(some true) else(if(decide ((List.length a0.1.1:Int)≤a1.2.2.1))=true then(some true) else(if(decide (a1.2.2.2.1<(1:Int)))=true then(some true) else(if(decide ((255:Int)<a1.2.2.2.1))=true then(some true) else(if(decide ((List.length a1.2.2.2.2.1:Int)<(1:Int)))=true then(some true) else(if(decide ((12:Int)<(List.length a1.2.2.2.2.1:Int)))=true then(some true) else(if(0:Int)<(List.length a1.2.2.2.2.1:Int) then(some (!decide ((nth du a1.2.2.2.2.1 (0:Int)).2.1.1=(3:Int)))) else none))))))) fun v2=>if v2=true then(bP (some false)) else(some (.brk (a0,a1)))) fun⟨b,a⟩=>aE (U:=Unit) (tE (Int.toNat (List.length a.2.2.2.2.1:Int)+1) (a.2.2.2.2.1,(List.length a.2.2.2.2.1:Int),0,b)) fun _v3=>some true
def PZ:SS:=⟨77,117,[tP 2 18,tP 3 19],[(18,bV cM),(19,bV bB)],[]⟩
def Lx:SS:=⟨77,117,[tP 2 18,(53,.val (.slice 120 du)),tI 54,tI 55],[(18,bV cM)],[]⟩
def P0:SS:=⟨77,117,[],[],[]⟩
def P1:SS:=⟨77,117,[tP 2 18,(53,.val (.slice 120 du)),tI 54,tI 55,(65,.val JO),tI 66],[(18,bV cM)],[]⟩
def P2:SS:=⟨77,117,[(4,vB)],[],[]⟩
def WG:aT:=aD G [.tmp 4] 87 [.val cM,.val bB] [] 117 P2 [] (.bx (u2 f87))
theorem WH:hS WG:=
 cO ⟨[hD 1 51 [],hA 6 0,hD 11 74 []],[(3,PZ),(14,Lx),(15,P0)],[],[(4,⟨Lx,fun u4=>Int.toNat u4.2.1+1⟩),(9,⟨P1,fun _=>Int.toNat (4:Int)+1⟩)],[],[]⟩ (hq PY hz) aF Tryz.call87 Tryz.func87
def l5(a0:jt)(a1:cT):IK:=
 Option.bind (f87 a1 a0) fun y1=>some (!y1,a1)
def P3:SS:=⟨8,48,[(3,vB)],[(0,.var (.aN .func) (.cD 87 cM))],[]⟩
def Fx:aT:=aD G [.tmp 3] 140 [.val bB,pP 0] [(0,.var (.aN .func) (.cD 87 cM))] 48 P3 [0] (.bx (u2 l5))
theorem Fz:hS Fx:=
 cO (hR [hA 1 0]) (hq WH hz) aF Tryz.call140 Tryz.func140
def xS:Nat→ZA×Int×xy→Option (cz cT xy):=aH fun Z9 ⟨e,d,c,f⟩=>if(decide (c<d))=true then(if 0≤c then(if c<(List.length e:Int) then(Option.bind (l5 (nth bB e c) f) fun⟨a,b⟩=>if a=true then(bP (some (c,b))) else(Z9 (e,d,aV (c+1),b))) else none) else none) else(some (.brk f))
def tF(a0:ZA)(a1:cT):Option xy:=
 aE (U:=cT) (xS (Int.toNat (List.length a0:Int)+1) (a0,(List.length a0:Int),0,a1)) fun v1=>some ((-1:Int),v1)
def P4:SS:=⟨19,59,[],[(0,.var (.aN .func) (.cD 87 cM))],[]⟩
def P5:SS:=⟨19,59,[(0,.val (.slice 96 bB)),(1,.func 140 .nil (.cons (pP 0) .nil)),tI 7,tI 8],[(0,.var (.aN .func) (.cD 87 cM))],[]⟩
def P6:SS:=⟨19,59,[tI 4],[(0,.var (.aN .func) (.cD 87 cM))],[]⟩
def FA:aT:=aD G [.tmp 4] 207 [.val (.slice 96 bB),.func 140 .nil (.cons (pP 0) .nil)] [(0,.var (.aN .func) (.cD 87 cM))] 59 P6 [0] (.bx (u2 tF))
theorem FB:hS FA:=
 cO ⟨[hE 4 [cB 0 [(0,0)] []]],[(7,P4)],[],[(2,⟨P5,fun u2=>Int.toNat u2.2.1+1⟩)],[],[]⟩ (hq Fz hz) aF Tryz.call207 Tryz.func207
def tG(a0:ZA)(a1:cT):IK:=
 Option.bind (tF a0 a1) fun⟨a,b⟩=>some (decide ((0:Int)≤a),b)
def P7:SS:=⟨9,49,[(4,vB)],[(0,.var (.aN .func) (.cD 87 cM))],[]⟩
def FC:aT:=aD G [.tmp 4] 139 [.val (.slice 96 bB),.func 140 .nil (.cons (pP 0) .nil)] [(0,.var (.aN .func) (.cD 87 cM))] 49 P7 [0] (.bx (u2 tG))
theorem FD:hS FC:=
 cO (hR [hE 1 [cB 0 [(0,0)] []]]) (hq FB hz) aF Tryz.call139 Tryz.func139
def tH(a0:ZA)(a1:cT):Zk:=
 Option.bind (tG a0 a1) fun⟨a,_⟩=>some (!a)
def Jn:aT:=aD G [.tmp 4] 86 [.val (.slice 96 bB),.cD 87 cM] [] 49 CU [] (.bx (u2 tH))
theorem Jo:hS Jn:=
 cO (hR [hE 1 [cB 0 [(0,19)] []]]) (hq FD hz) aF Tryz.call86 Tryz.func86
def f78(a0:cT)(a1:Int)(a2:Int):Option (Bool×gI):=
 aE (U:=Int×Int×cT×Int×Int×Int×Zg×Int) (Option.bind (α:=Bool) (if(decide (a1<(0:Int)))=true then(some true) else(if(decide ((List.length a0.1.2.2.1:Int)≤a1))=true then(some true) else(if(decide (a2<(0:Int)))=true then(some true) else(if 0≤a1 then(if a1<(List.length a0.1.2.2.1:Int) then(some (decide ((List.length (nth bB a0.1.2.2.1 a1).2.2.2.2.1:Int)≤a2))) else none) else none)))) fun v2=>if v2=true then(bP (some (false,0,0,0,[],0,([]:ZH),()))) else(some (.brk (a1,a2,a0,0,0,0,[],0)))) fun⟨a,c,b,_,_,_,_,_⟩=>if 0≤a then(if a<(List.length b.1.2.2.1:Int) then(if 0≤c then(if c<(List.length (nth bB b.1.2.2.1 a).2.2.2.2.1:Int) then(some (true,(nth du (nth bB b.1.2.2.1 a).2.2.2.2.1 c).2.1)) else none) else none) else none) else none
def P8:SS:=⟨46,86,[tI 1,tI 2,tP 3 19,tP 6 22],[(19,bV cM),(22,.var jP (.cons vI (.cons vI (.cons vI (.cons (.val .str) (.cons vI (.cons .aX .nil)))))))],[]⟩
def P9:SS:=⟨46,86,[tP 6 22,(7,vB)],[(22,bV jP)],[]⟩
def WI:aT:=aD G [.cell 6 96,.tmp 7] 78 [.val cM,vI,vI] [] 86 P9 [] (.bx (u3 f78))
theorem Ly:hS WI:=
 cO ⟨[hD 1 33 []],[(3,P8)],[],[],[],[]⟩ hz aF Tryz.call78 Tryz.func78
def f203(a0:ei)(a1:fm)(a2:Int):Option (Bool×gI):=
 aE (U:=ei×fm×Int×Int×Int×Zg×Int) (Option.bind (α:=Bool) (if(decide (a1.2.2.1<(0:Int)))=true then(some true) else(some (decide (a2≤a1.2.2.1)))) fun v2=>if v2=true then(bP (some (false,0,0,0,[],0,([]:ZH),()))) else(some (.brk (a0,a1,0,0,0,[],0)))) fun⟨b,a,_,_,_,_,_⟩=>if 0≤a.2.2.1 then(if a.2.2.1<(List.length b.2.1.2.2.1:Int) then(Option.bind (f78 b.1 (nth aK b.2.1.2.2.1 a.2.2.1).2.2.1 a.2.2.2.1) fun⟨c,d⟩=>some (c,d)) else none) else none
def Qa:SS:=⟨33,73,[tP 3 19,tP 4 20,tP 6 22],[(19,bV jQ),(20,bV aO),(22,.var jP (.cons vI (.cons vI (.cons vI (.cons (.val .str) (.cons vI (.cons .aX .nil)))))))],[]⟩
def Qb:SS:=⟨33,73,[tP 6 22,(7,vB)],[(22,bV jP)],[]⟩
def Qc:aT:=aD G [.cell 6 96,.tmp 7] 203 [.val jQ,.val aO,vI] [] 73 Qb [] (.bx (u3 f203))
theorem Jp:hS Qc:=
 cO ⟨[hD 1 16 [],hA 3 0],[(3,Qa)],[],[],[],[]⟩ (hq Ly hz) aF Tryz.call203 Tryz.func203
def oQ:Nat→Zv×Int×Int×ei→Zt:=aH fun aaI ⟨k,j,i,l⟩=>if(decide (i<j))=true then(if 0≤i then(if i<(List.length k:Int) then(aE (U:=Int×Zv×Int×Int×ei×rV) (Option.bind (α:=Bool) (if(decide ((nth aK k i).2.2.1<(0:Int)))=true then(some true) else(some (decide ((List.length l.1.1.2.2.1:Int)≤(nth aK k i).2.2.1)))) fun v7=>if v7=true then(bP (bP (some false))) else(some (.brk (i,k,j,i,l,nth aK k i)))) fun⟨f,b,c,d,e,a⟩=>if(decide (a.2.2.2.1.2.2.1=(-1:Int)))=true then(aaI (b,c,aV (d+1),e)) else(Option.bind (f203 e a.2.2.2.1 f) fun⟨g,h⟩=>Option.bind (α:=Bool) (if(!g)=true then(some true) else(some (!decide (h.1=(3:Int))))) fun v9=>if v9=true then(bP (some false)) else(aaI (b,c,aV (d+1),e)))) else none) else none) else(some (.brk ()))
def f133(a0:ei):Zk:=
 aE (U:=ei) (Option.bind (α:=Bool) (if(decide ((List.length a0.2.1.2.2.1:Int)<(1:Int)))=true then(some true) else(some (decide ((3:Int)<(List.length a0.2.1.2.2.1:Int))))) fun v2=>if v2=true then(bP (some false)) else(some (.brk a0))) fun v1=>aE (U:=Unit) (oQ (Int.toNat (List.length v1.2.1.2.2.1:Int)+1) (v1.2.1.2.2.1,(List.length v1.2.1.2.2.1:Int),0,v1)) fun _v3=>some true
def Qd:SS:=⟨61,101,[tP 1 17],[(17,bV jQ)],[]⟩
def Qe:SS:=⟨61,101,[tP 1 17,tI 3,tP 4 20,(21,.val (.slice 96 aK)),tI 22,tI 23],[(17,bV jQ),(20,bV aK)],[]⟩
def Qf:SS:=⟨61,101,[],[],[]⟩
def Qg:SS:=⟨61,101,[tP 1 17,(21,.val (.slice 96 aK)),tI 22,tI 23],[(17,bV jQ)],[]⟩
def Qh:SS:=⟨61,101,[(2,vB)],[],[]⟩
def Qi:aT:=aD G [.tmp 2] 133 [.val jQ] [] 101 Qh [] (.bx (u1 f133))
theorem Qj:hS Qi:=
 cO ⟨[hD 1 18 [],hD 6 40 [],hA 9 0,hD 10 59 []],[(3,Qd),(8,Qe),(13,Qf)],[],[(4,⟨Qg,fun u4=>Int.toNat u4.2.1+1⟩)],[],[]⟩ (hq Jp hz) aF Tryz.call133 Tryz.func133
def f204(a0:fm):Zk:=
 Option.bind (α:=Bool) (if(decide (a0.2.2.1=(-1:Int)))=true then(if(decide ((0:Int)≤a0.2.2.2.2.1))=true then(some (decide (a0.2.2.2.2.1≤(1048576:Int)))) else(some false)) else(some false)) fun v1=>some v1
def Qk:SS:=⟨16,56,[(2,vB)],[],[]⟩
def Ql:aT:=aD G [.tmp 2] 204 [.val aO] [] 56 Qk [] (.bx (u1 f204))
theorem Lz:hS Ql:=
 cO (hR [hD 1 2 []]) hz aF Tryz.call204 Tryz.func204
def f205(a0:cT)(a1:gI)(a2:gI):Zk:=
 aE (U:=cT×gI×gI) (if(!decide (a1.1=a2.1))=true then(bP (some false)) else(if(decide (a1.1=(4:Int)))=true then(Option.bind (f97 a1.2.2.2.2.2.1 a2.2.2.2.2.2.1) fun y2=>bP (some y2)) else(Option.bind (α:=Bool) (if(!decide (a1.1=(1:Int)))=true then(some true) else(if(decide (a1.2.2.2.2.1=(-1:Int)))=true then(some true) else(some (decide (a2.2.2.2.2.1=(-1:Int)))))) fun v3=>if v3=true then(bP (some (decide (a1.2.2.2.2.1=a2.2.2.2.2.1)))) else(some (.brk (a0,a1,a2)))))) fun⟨b,a,c⟩=>if 0≤a.2.2.2.2.1 then(if a.2.2.2.2.1<(List.length b.1.2.1:Int) then(if 0≤c.2.2.2.2.1 then(if c.2.2.2.2.1<(List.length b.1.2.1:Int) then(some (decide ((nth aO b.1.2.1 a.2.2.2.2.1).2.2.2.1=(nth aO b.1.2.1 c.2.2.2.2.1).2.2.2.1))) else none) else none) else none) else none
def Qm:SS:=⟨58,98,[tP 3 19,tP 4 20,tP 5 21],[(19,bV cM),(20,bV jP),(21,bV jP)],[]⟩
def Qn:SS:=⟨58,98,[(6,vB)],[],[]⟩
def Qo:aT:=aD G [.tmp 6] 205 [.val cM,.val jP,.val jP] [] 98 Qn [] (.bx (u3 f205))
theorem Qp:hS Qo:=
 cO ⟨[hA 4 0,hD 5 22 []],[(7,Qm)],[],[],[],[]⟩ (hq ML hz) aF Tryz.call205 Tryz.func205
def kF:Nat→Int×Int×ei×mJ×Zq×List gI→Option (cz (ei×mJ×List gI) Bool):=aH fun aaI ⟨d,c,f,h,e,g⟩=>if(decide (c<d))=true then(if 0≤c then(if c<(List.length e:Int) then(Option.bind (f203 f (nth aO e c) (List.length f.2.1.2.2.1:Int)) fun⟨a,b⟩=>Option.bind (α:=Bool) (if(!a)=true then(Option.bind (f204 (nth aO e c)) fun y7=>some (!y7)) else(some false)) fun v8=>if v8=true then(bP (some false)) else(if a=true then(if(List.length g+List.length [b])*72≤aC then(aaI (d,aV (c+1),f,h,e,g++[b])) else none) else(aaI (d,aV (c+1),f,h,e,g)))) else none) else none) else(some (.brk (f,h,g)))
def jX:Nat→Int×Int×mJ×List gI→Zt:=aH fun rec14 ⟨b,a,d,c⟩=>if(decide (a<b))=true then(if 0≤a then(if a<(List.length c:Int) then(Option.bind (α:=Bool) (if(decide ((nth jP c a).1=(1:Int)))=true then(some true) else(some (decide ((nth jP c a).1=(2:Int))))) fun v15=>Option.bind (α:=Bool) (if(decide (d.1=(2:Int)))=true then(some (!v15)) else(if(decide (d.1=(3:Int)))=true then(some (!v15)) else(some false))) fun v16=>if v16=true then(bP (some false)) else(rec14 (b,aV (a+1),d,c))) else none) else none) else(some (.brk ()))
def f134(a0:ei)(a1:mJ):Zk:=
 aE (U:=ei×mJ) (Option.bind (α:=Bool) (if(decide (a1.1<(1:Int)))=true then(some true) else(some (decide ((4:Int)<a1.1)))) fun v2=>if v2=true then(bP (some false)) else(some (.brk (a0,a1)))) fun⟨b,a⟩=>aE (U:=ei×mJ×List gI) (kF (Int.toNat (List.length [a.2.1,a.2.2.1]:Int)+1) ((List.length [a.2.1,a.2.2.1]:Int),0,b,a,[a.2.1,a.2.2.1],([]:List gI))) fun⟨d,e,c⟩=>aE (U:=mJ×List gI) (Option.bind (α:=Bool) (if(decide ((List.length c:Int)=(0:Int)))=true then(some true) else(if(decide ((List.length c:Int)=(2:Int)))=true then(if(0:Int)<(List.length c:Int) then(if(1:Int)<(List.length c:Int) then(Option.bind (f205 d.1 (nth jP c (0:Int)) (nth jP c (1:Int))) fun y10=>some (!y10)) else none) else none) else(some false))) fun v11=>if v11=true then(bP (some false)) else(some (.brk (e,c)))) fun⟨g,f⟩=>aE (U:=Unit) (jX (Int.toNat (List.length f:Int)+1) ((List.length f:Int),0,g,f)) fun _v12=>some true
def Qq:SS:=⟨101,141,[tP 2 18,tP 3 19],[(18,bV jQ),(19,bV aM)],[]⟩
def Qr:SS:=⟨101,141,[tP 2 18,tP 3 19,(5,.own 118)],[(18,bV jQ),(19,bV aM),(118,.row 96 72 jP)],[]⟩
def Qs:SS:=⟨101,141,[tP 3 19,(5,.own 118)],[(19,bV aM),(118,.row 96 72 jP)],[]⟩
def Qt:SS:=⟨101,141,[],[],[]⟩
def Qu:SS:=⟨101,141,[tP 2 18,tP 3 19,(5,.own 117),(25,.own 41),tI 26,tI 27],[(18,bV jQ),(19,bV aM),(41,.row 251 56 aO),(117,.row 96 72 jP)],[]⟩
def Qv:SS:=⟨101,141,[tP 3 19,(74,.own 118),tI 75,tI 76],[(19,bV aM),(118,.row 96 72 jP)],[]⟩
def Qw:SS:=⟨101,141,[(4,vB)],[],[]⟩
def Qx:aT:=aD G [.tmp 4] 134 [.val jQ,.val aM] [] 141 Qw [] (.bx (u2 f134))
theorem Qy:hS Qx:=
 cO ⟨[hD 1 20 [],hA 7 0,hD 8 47 [cA 1],hD 13 73 [cA 2],hD 18 12 [],hD 19 99 []],[(3,Qq),(13,Qr),(15,Qs),(22,Qt)],[],[(5,⟨Qu,fun u4=>Int.toNat u4.1+1⟩),(16,⟨Qv,fun Ew=>Int.toNat Ew.1+1⟩)],[],[]⟩ (hq Jp (hq Lz (hq Qp hz))) aF Tryz.call134 Tryz.func134
def f135(a0:ei)(a1:gI)(a2:fm):Zk:=
 Option.bind (f204 a2) fun y1=>if y1=true then(Option.bind (α:=Bool) (if(decide (a1.2.1≤a2.2.2.2.2.1))=true then(some (decide (a2.2.2.2.2.1≤a1.2.2.1))) else(some false)) fun v2=>some v2) else(Option.bind (f203 a0 a2 (List.length a0.2.1.2.2.1:Int)) fun⟨a,b⟩=>Option.bind (α:=Bool) (if a=true then(if(decide (b.1=a1.1))=true then(if(decide (b.2.2.2.2.1=a1.2.2.2.2.1))=true then(Option.bind (f97 b.2.2.2.2.2.1 a1.2.2.2.2.2.1) fun y4=>if y4=true then(if(decide (a1.2.1≤b.2.1))=true then(if(decide (b.2.1≤a1.2.2.1))=true then(if(decide (a1.2.1≤b.2.2.1))=true then(some (decide (b.2.2.1≤a1.2.2.1))) else(some false)) else(some false)) else(some false)) else(some false)) else(some false)) else(some false)) else(some false)) fun v5=>some v5)
def Qz:SS:=⟨83,123,[(6,vB)],[],[]⟩
def QA:aT:=aD G [.tmp 6] 135 [.val jQ,.val jP,.val aO] [] 123 Qz [] (.bx (u3 f135))
theorem QB:hS QA:=
 cO (hR [hA 1 0,hD 2 6 [],hA 3 1,hD 4 6 [cA 2]]) (hq Lz (hq Jp (hq ML hz))) aF Tryz.call135 Tryz.func135
def tJ:Nat→Zf×Int×Int×Zn→Zt:=aH fun Z9 ⟨c,b,a,d⟩=>if(decide (a<b))=true then(if 0≤a then(if a<(List.length c:Int) then(if(bJ (.int .i64) .bool (nth (.int .i64) c a) d)=true then(bP (some false)) else(if List.length d+1≤aC then(Z9 (c,b,aV (a+1),bz (.int .i64) (nth (.int .i64) c a) true d)) else none)) else none) else none) else(some (.brk ()))
def f136(a0:Zf):Zk:=
 aE (U:=Unit) (tJ (Int.toNat (List.length a0:Int)+1) (a0,(List.length a0:Int),0,([]:Zn))) fun _v1=>some true
def QC:SS:=⟨21,61,[],[],[]⟩
def QD:SS:=⟨21,61,[(3,.mp 24),(9,.val (.slice 8 (.int .i64))),tI 10,tI 11],[(24,.map (.int .i64) .bool)],[]⟩
def QE:SS:=⟨21,61,[(2,vB)],[],[]⟩
def QF:aT:=aD G [.tmp 2] 136 [.val (.slice 8 (.int .i64))] [] 61 QE [] (.bx (u1 f136))
theorem QG:hS QF:=
 cO ⟨[],[(9,QC)],[],[(3,⟨QD,fun u2=>Int.toNat u2.2.1+1⟩)],[],[]⟩ hz aF Tryz.call136 Tryz.func136
def nc:Nat→Zx×Int×Int×ei→Option (cz ei Bool):=aH fun rec6 ⟨c,b,a,d⟩=>if(decide (a<b))=true then(if 0≤a then(if a<(List.length c:Int) then(Option.bind (f134 d (nth aM c a)) fun y7=>if(!y7)=true then(bP (some false)) else(rec6 (c,b,aV (a+1),d))) else none) else none) else(some (.brk d))
def kG:Nat→Int×Zy×Int×Int×ei×Zf→Option (cz Zf Bool):=aH fun rec12 ⟨g,e,d,c,f,h⟩=>if(decide (c<d))=true then(if 0≤c then(if c<(List.length e:Int) then(Option.bind (f78 f.1 g (nth aW e c).2.1) fun⟨a,b⟩=>Option.bind (α:=Bool) (if(!a)=true then(some true) else(if(decide ((nth aW e c).2.1=(0:Int)))=true then(some true) else(Option.bind (f135 f b (nth aW e c).2.2.1) fun y14=>some (!y14)))) fun v15=>if v15=true then(bP (some false)) else(if(List.length h+List.length [(nth aW e c).2.1])*8≤aC then(rec12 (g,e,d,aV (c+1),f,h++[(nth aW e c).2.1])) else none)) else none) else none) else(some (.brk h))
def f83(a0:ei):Zk:=
 aE (U:=ei) (Option.bind (α:=Bool) (Option.bind (f133 a0) fun y2=>if(!y2)=true then(some true) else(some (decide ((8:Int)<(List.length a0.2.1.2.2.2.1:Int))))) fun v3=>if v3=true then(bP (some false)) else(some (.brk a0))) fun v1=>aE (U:=ei) (nc (Int.toNat (List.length v1.2.1.2.2.2.1:Int)+1) (v1.2.1.2.2.2.1,(List.length v1.2.1.2.2.2.1:Int),0,v1)) fun v4=>aE (U:=Int×ei) (Option.bind (α:=Bool) (if(decide (v4.2.1.2.1<(0:Int)))=true then(some true) else(if(decide ((List.length v4.1.1.2.2.1:Int)≤v4.2.1.2.1))=true then(some true) else(if 0≤v4.2.1.2.1 then(if v4.2.1.2.1<(List.length v4.1.1.2.2.1:Int) then(some (!decide ((List.length v4.2.1.2.2.2.2.1:Int)=(aV ((List.length (nth bB v4.1.1.2.2.1 v4.2.1.2.1).2.2.2.2.1:Int) -(1:Int)))))) else none) else none))) fun v9=>if v9=true then(bP (some false)) else(some (.brk (v4.2.1.2.1,v4)))) fun⟨b,a⟩=>aE (U:=Zf) (kG (Int.toNat (List.length a.2.1.2.2.2.2.1:Int)+1) (b,a.2.1.2.2.2.2.1,(List.length a.2.1.2.2.2.2.1:Int),0,a,([]:Zf))) fun v10=>Option.bind (f136 v10) fun y16=>some y16
def LA:SS:=⟨105,145,[tP 1 17],[(17,bV jQ)],[]⟩
def QH:SS:=⟨105,145,[tP 1 17,tI 5],[(17,bV jQ)],[]⟩
def QI:SS:=⟨105,145,[(6,.own 122)],[(122,.row 3 8 (.int .i64))],[]⟩
def QJ:SS:=⟨105,145,[tP 1 17,(23,.val (.slice 120 aM)),tI 24,tI 25],[(17,bV jQ)],[]⟩
def QK:SS:=⟨105,145,[tP 1 17,tI 5,(6,.own 121),(67,.val (.slice 80 aW)),tI 68,tI 69],[(17,bV jQ),(121,.row 3 8 (.int .i64))],[]⟩
def QL:SS:=⟨105,145,[(2,vB)],[],[]⟩
def WJ:aT:=aD G [.tmp 2] 83 [.val jQ] [] 145 QL [] (.bx (u1 f83))
theorem WK:hS WJ:=
 cO ⟨[hD 1 20 [cA 0],hA 6 1,hD 10 64 [],hA 16 2,hD 17 96 [cA 3],hA 21 4],[(3,LA),(9,LA),(12,QH),(21,QI)],[],[(4,⟨QJ,fun u5=>Int.toNat u5.2.1+1⟩),(14,⟨QK,fun G8=>Int.toNat G8.2.2.1+1⟩)],[],[]⟩ (hq Qj (hq Qy (hq Ly (hq QB (hq QG hz))))) aF Tryz.call83 Tryz.func83
def xT(a0:cF)(a1:cT):Zk:=
 Option.bind (f83 (a1,a0,())) fun y1=>some y1
def QM:SS:=⟨8,48,[(3,vB)],[],[]⟩
def Jq:aT:=aD G [.tmp 3] 82 [.val bu,.bD cM] [] 48 QM [] (.bx (u2 xT))
theorem Jr:hS Jq:=
 cO (hR [hA 1 0]) (hq WK hz) aF Tryz.call82 Tryz.func82
def l6(a0:cF)(a1:cT):IK:=
 Option.bind (xT a0 a1) fun y1=>some (!y1,a1)
def QN:SS:=⟨8,48,[(3,vB)],[(0,.var (.aN .func) (.func 82 .nil (.cons (.bD cM) .nil)))],[]⟩
def FE:aT:=aD G [.tmp 3] 141 [.val bu,pP 0] [(0,.var (.aN .func) (.func 82 .nil (.cons (.bD cM) .nil)))] 48 QN [0] (.bx (u2 l6))
theorem FF:hS FE:=
 cO (hR [hA 1 0]) (hq Jr hz) aF Tryz.call141 Tryz.func141
def xU:Nat→Zm×Int×xy→Option (cz cT xy):=aH fun Z9 ⟨e,d,c,f⟩=>if(decide (c<d))=true then(if 0≤c then(if c<(List.length e:Int) then(Option.bind (l6 (nth bu e c) f) fun⟨a,b⟩=>if a=true then(bP (some (c,b))) else(Z9 (e,d,aV (c+1),b))) else none) else none) else(some (.brk f))
def tK(a0:Zm)(a1:cT):Option xy:=
 aE (U:=cT) (xU (Int.toNat (List.length a0:Int)+1) (a0,(List.length a0:Int),0,a1)) fun v1=>some ((-1:Int),v1)
def QO:SS:=⟨19,59,[],[(0,.var (.aN .func) (.func 82 .nil (.cons (.bD cM) .nil)))],[]⟩
def QP:SS:=⟨19,59,[(0,.val (.slice 96 bu)),(1,.func 141 .nil (.cons (pP 0) .nil)),tI 7,tI 8],[(0,.var (.aN .func) (.func 82 .nil (.cons (.bD cM) .nil)))],[]⟩
def QQ:SS:=⟨19,59,[tI 4],[(0,.var (.aN .func) (.func 82 .nil (.cons (.bD cM) .nil)))],[]⟩
def FG:aT:=aD G [.tmp 4] 161 [.val (.slice 96 bu),.func 141 .nil (.cons (pP 0) .nil)] [(0,.var (.aN .func) (.func 82 .nil (.cons (.bD cM) .nil)))] 59 QQ [0] (.bx (u2 tK))
theorem FH:hS FG:=
 cO ⟨[hE 4 [cB 0 [(0,0)] []]],[(7,QO)],[],[(2,⟨QP,fun u2=>Int.toNat u2.2.1+1⟩)],[],[]⟩ (hq FF hz) aF Tryz.call161 Tryz.func161
def tL(a0:Zm)(a1:cT):IK:=
 Option.bind (tK a0 a1) fun⟨a,b⟩=>some (decide ((0:Int)≤a),b)
def QR:SS:=⟨9,49,[(4,vB)],[(0,.var (.aN .func) (.func 82 .nil (.cons (.bD cM) .nil)))],[]⟩
def FJ:aT:=aD G [.tmp 4] 108 [.val (.slice 96 bu),.func 141 .nil (.cons (pP 0) .nil)] [(0,.var (.aN .func) (.func 82 .nil (.cons (.bD cM) .nil)))] 49 QR [0] (.bx (u2 tL))
theorem FK:hS FJ:=
 cO (hR [hE 1 [cB 0 [(0,0)] []]]) (hq FH hz) aF Tryz.call108 Tryz.func108
def tM(a0:Zm)(a1:cT):Zk:=
 Option.bind (tL a0 a1) fun⟨a,_⟩=>some (!a)
def Js:aT:=aD G [.tmp 4] 88 [.val (.slice 96 bu),.func 82 .nil (.cons (.bD cM) .nil)] [] 49 CU [] (.bx (u2 tM))
theorem Jt:hS Js:=
 cO (hR [hE 1 [cB 0 [(0,19)] []]]) (hq FK hz) aF Tryz.call88 Tryz.func88
def nf:Nat→List lN×Int×Int×cT×kY→Option (cz kY Bool):=aH fun Z9 ⟨d,c,b,e,f⟩=>if(decide (b<c))=true then(if 0≤b then(if b<(List.length d:Int) then(Option.bind (f78 e (nth dz d b).2.2.1 (nth dz d b).2.2.2.1) fun⟨a,_⟩=>if(!a)=true then(bP (some false)) else(Z9 (d,c,aV (b+1),e,f))) else none) else none) else(some (.brk f))
def f90(a0:cT)(a1:kY):Zk:=
 aE (U:=kY) (nf (Int.toNat (List.length a1.2.1:Int)+1) (a1.2.1,(List.length a1.2.1:Int),0,a0,a1)) fun v1=>Option.bind (α:=Bool) (if(decide ((0:Int)≤v1.2.2.1))=true then(some (decide (v1.2.2.1≤(64:Int)))) else(some false)) fun v5=>some v5
def QS:SS:=⟨36,76,[tP 3 19],[(19,bV cQ)],[]⟩
def QT:SS:=⟨36,76,[tP 2 18,tP 3 19,(10,.val (.slice 48 dz)),tI 11,tI 12],[(18,bV cM),(19,bV cQ)],[]⟩
def QU:SS:=⟨36,76,[(4,vB)],[],[]⟩
def WM:aT:=aD G [.tmp 4] 90 [.val cM,.val cQ] [] 76 QU [] (.bx (u2 f90))
theorem WN:hS WM:=
 cO ⟨[hA 4 0,hD 8 4 []],[(8,QS)],[],[(2,⟨QT,fun u2=>Int.toNat u2.2.1+1⟩)],[],[]⟩ (hq Ly hz) aF Tryz.call90 Tryz.func90
def l7(a0:kY)(a1:cT):IK:=
 Option.bind (f90 a1 a0) fun y1=>some (!y1,a1)
def QV:SS:=⟨8,48,[(3,vB)],[(0,.var (.aN .func) (.cD 90 cM))],[]⟩
def FL:aT:=aD G [.tmp 3] 142 [.val cQ,pP 0] [(0,.var (.aN .func) (.cD 90 cM))] 48 QV [0] (.bx (u2 l7))
theorem FN:hS FL:=
 cO (hR [hA 1 0]) (hq WN hz) aF Tryz.call142 Tryz.func142
def xV:Nat→Zz×Int×xy→Option (cz cT xy):=aH fun Z9 ⟨e,d,c,f⟩=>if(decide (c<d))=true then(if 0≤c then(if c<(List.length e:Int) then(Option.bind (l7 (nth cQ e c) f) fun⟨a,b⟩=>if a=true then(bP (some (c,b))) else(Z9 (e,d,aV (c+1),b))) else none) else none) else(some (.brk f))
def tN(a0:Zz)(a1:cT):Option xy:=
 aE (U:=cT) (xV (Int.toNat (List.length a0:Int)+1) (a0,(List.length a0:Int),0,a1)) fun v1=>some ((-1:Int),v1)
def QW:SS:=⟨19,59,[],[(0,.var (.aN .func) (.cD 90 cM))],[]⟩
def QX:SS:=⟨19,59,[(0,.val (.slice 48 cQ)),(1,.func 142 .nil (.cons (pP 0) .nil)),tI 7,tI 8],[(0,.var (.aN .func) (.cD 90 cM))],[]⟩
def QY:SS:=⟨19,59,[tI 4],[(0,.var (.aN .func) (.cD 90 cM))],[]⟩
def FP:aT:=aD G [.tmp 4] 202 [.val (.slice 48 cQ),.func 142 .nil (.cons (pP 0) .nil)] [(0,.var (.aN .func) (.cD 90 cM))] 59 QY [0] (.bx (u2 tN))
theorem FQ:hS FP:=
 cO ⟨[hE 4 [cB 0 [(0,0)] []]],[(7,QW)],[],[(2,⟨QX,fun u2=>Int.toNat u2.2.1+1⟩)],[],[]⟩ (hq FN hz) aF Tryz.call202 Tryz.func202
def tO(a0:Zz)(a1:cT):IK:=
 Option.bind (tN a0 a1) fun⟨a,b⟩=>some (decide ((0:Int)≤a),b)
def QZ:SS:=⟨9,49,[(4,vB)],[(0,.var (.aN .func) (.cD 90 cM))],[]⟩
def FR:aT:=aD G [.tmp 4] 131 [.val (.slice 48 cQ),.func 142 .nil (.cons (pP 0) .nil)] [(0,.var (.aN .func) (.cD 90 cM))] 49 QZ [0] (.bx (u2 tO))
theorem FU:hS FR:=
 cO (hR [hE 1 [cB 0 [(0,0)] []]]) (hq FQ hz) aF Tryz.call131 Tryz.func131
def tQ(a0:Zz)(a1:cT):Zk:=
 Option.bind (tO a0 a1) fun⟨a,_⟩=>some (!a)
def Ju:aT:=aD G [.tmp 4] 89 [.val (.slice 48 cQ),.cD 90 cM] [] 49 CU [] (.bx (u2 tQ))
theorem Jv:hS Ju:=
 cO (hR [hE 1 [cB 0 [(0,19)] []]]) (hq FU hz) aF Tryz.call89 Tryz.func89
def f57(a0:cK):ZM:=
 Option.bind (f81 (a0,())) fun y1=>if(!y1)=true then(some (2:Int)) else(Option.bind (α:=Bool) (Option.bind (tC a0.2.1 (a0,())) fun y2=>if(!y2)=true then(some true) else(Option.bind (tH a0.2.2.1 (a0,())) fun y3=>if(!y3)=true then(some true) else(Option.bind (tM a0.2.2.2.1 (a0,())) fun y4=>if(!y4)=true then(some true) else(Option.bind (tQ a0.2.2.2.2.2.1 (a0,())) fun y5=>some (!y5))))) fun v6=>if v6=true then(some (120:Int)) else(some (0:Int)))
def Q2:SS:=⟨40,80,[tI 2],[],[]⟩
def WO:aT:=aD G [.tmp 2] 57 [.val fe] [] 80 Q2 [] (.bx (u1 f57))
theorem VH:hS WO:=
 cO (hR [hA 2 0,hD 5 39 [cA 1,cA 2,cA 3,cA 4]]) (hq WC (hq Jm (hq Jo (hq Jt (hq Jv hz))))) aF Tryz.call57 Tryz.func57
def f208(a0:Int)(a1:Int):Zk:=
 if 0≤a1 then(some (decide ((dZ .and .u64 (Int.fdiv a0 (2^(min (Int.toNat a1) 64))) (1:Int))=(1:Int)))) else none
def Q3:SS:=⟨10,50,[(4,vB)],[],[]⟩
def Q4:aT:=aD G [.tmp 4] 208 [.val (.int .u64),vI] [] 50 Q3 [] (.bx (u2 f208))
theorem Q5:hS Q4:=
 cO (hR []) hz aF Tryz.call208 Tryz.func208
def kH:Nat→Int×Int×Zf×Int×Int×gB→Option (cz (Int×Int×gB) Bool):=aH fun Z9 ⟨d,e,c,b,a,f⟩=>if(decide (a<b))=true then(if 0≤a then(if a<(List.length c:Int) then(Option.bind (α:=Bool) (if(decide ((nth (.int .i64) c a)<(0:Int)))=true then(some true) else(if(decide (d≤(nth (.int .i64) c a)))=true then(some true) else(Option.bind (f208 e (nth (.int .i64) c a)) fun y4=>some y4))) fun v5=>if v5=true then(bP (some false)) else(if 0≤(nth (.int .i64) c a) then(Z9 (d,dZ .or .u64 e (IntKind.u64.wrap ((1:Int)*2^(min (Int.toNat (nth (.int .i64) c a)) 64))),c,b,aV (a+1),f)) else none)) else none) else none) else(some (.brk (d,e,f)))
def f143(a0:gB)(a1:Int):Zk:=
 aE (U:=Int×Int×gB) (kH (Int.toNat (List.length a0.2.2.1:Int)+1) (a1,0,a0.2.2.1,(List.length a0.2.2.1:Int),0,a0)) fun⟨c,a,b⟩=>Option.bind (α:=Bool) (if(!decide (a=(0:Int)))=true then(if(decide ((0:Int)≤b.2.2.2.1))=true then(if(decide (b.2.2.2.1<c))=true then(Option.bind (f208 a b.2.2.2.1) fun y6=>some (!y6)) else(some false)) else(some false)) else(some false)) fun v7=>some v7
def Q6:SS:=⟨52,92,[tI 1,tP 2 18,(5,.val (.int .u64))],[(18,bV dy)],[]⟩
def Q7:SS:=⟨52,92,[tI 1,tP 2 18,(5,.val (.int .u64)),(9,.val (.slice 8 (.int .i64))),tI 10,tI 11],[(18,bV dy)],[]⟩
def Q8:SS:=⟨52,92,[(4,vB)],[],[]⟩
def Q9:aT:=aD G [.tmp 4] 143 [.val dy,vI] [] 92 Q8 [] (.bx (u2 f143))
theorem Ra:hS Q9:=
 cO ⟨[hD 5 26 [cA 0],hD 9 4 [cA 0]],[(9,Q6)],[],[(3,⟨Q7,fun u2=>Int.toNat u2.2.2.2.1+1⟩)],[],[]⟩ (hq Q5 hz) aF Tryz.call143 Tryz.func143
def qe:Nat→List gB×Int×Int×jt→Option (cz Unit Int):=aH fun aaI ⟨c,b,a,d⟩=>if(decide (a<b))=true then(if 0≤a then(if a<(List.length c:Int) then(Option.bind (f143 (nth dy c a) (List.length d.2.2.2.2.1:Int)) fun y6=>if(!y6)=true then(bP (some (130:Int))) else(aaI (c,b,aV (a+1),d))) else none) else none) else(some (.brk ()))
def f91(a0:jt):ZM:=
 aE (U:=jt) (Option.bind (α:=Bool) (if(decide ((List.length a0.2.2.2.2.1:Int)<(1:Int)))=true then(some true) else(if(decide ((12:Int)<(List.length a0.2.2.2.2.1:Int)))=true then(some true) else(some (decide ((12:Int)<(List.length a0.2.2.2.2.2.1:Int)))))) fun v2=>if v2=true then(bP (some (130:Int))) else(some (.brk a0))) fun v1=>aE (U:=Unit) (qe (Int.toNat (List.length v1.2.2.2.2.2.1:Int)+1) (v1.2.2.2.2.2.1,(List.length v1.2.2.2.2.2.1:Int),0,v1)) fun _v3=>some (0:Int)
def Rb:SS:=⟨35,75,[tP 1 17],[(17,bV bB)],[]⟩
def Rc:SS:=⟨35,75,[],[],[]⟩
def Re:SS:=⟨35,75,[tP 1 17,(22,.val (.slice 72 dy)),tI 23,tI 24],[(17,bV bB)],[]⟩
def Rf:SS:=⟨35,75,[tI 2],[],[]⟩
def WQ:aT:=aD G [.tmp 2] 91 [.val bB] [] 75 Rf [] (.bx (u1 f91))
theorem WR:hS WQ:=
 cO ⟨[hD 1 20 [],hA 6 0],[(3,Rb),(9,Rc)],[],[(4,⟨Re,fun u4=>Int.toNat u4.2.1+1⟩)],[],[]⟩ (hq Ra hz) aF Tryz.call91 Tryz.func91
def xW:Nat→ZA×ZY→Option (cz Unit Int):=aH fun Z9 ⟨c,b,a⟩=>if(decide (a<b))=true then(if 0≤a then(if a<(List.length c:Int) then(Option.bind (f91 (nth bB c a)) fun y4=>if(!decide (y4=(0:Int)))=true then(bP (some y4)) else(Z9 (c,b,aV (a+1)))) else none) else none) else(some (.brk ()))
def f58(a0:cK):ZM:=
 aE (U:=Unit) (xW (Int.toNat (List.length a0.2.2.1:Int)+1) (a0.2.2.1,(List.length a0.2.2.1:Int),0)) fun _v1=>some (0:Int)
def Rg:SS:=⟨19,59,[],[],[]⟩
def Rh:SS:=⟨19,59,[(7,.val (.slice 96 bB)),tI 8,tI 9],[],[]⟩
def Ri:SS:=⟨19,59,[tI 2],[],[]⟩
def WS:aT:=aD G [.tmp 2] 58 [.val fe] [] 59 Ri [] (.bx (u1 f58))
theorem WT:hS WS:=
 cO ⟨[hA 4 0],[(8,Rg)],[],[(2,⟨Rh,fun u2=>Int.toNat u2.2.1+1⟩)],[],[]⟩ (hq WR hz) aF Tryz.call58 Tryz.func58
def l9(a0:Int)(a1:Int)(a2:ZN):Option (Bool×ZN):=
 Option.bind (α:=Bool) (if(decide ((0:Int)≤a1))=true then(some (decide (a1<a0))) else(some false)) fun v1=>some (v1,a2)
def Rj:SS:=⟨13,53,[(4,vB)],[(0,.pmap (.int .i64) (.map (.int .i64) .bool) 0)],[]⟩
def FX:aT:=aD G [.tmp 4] 146 [.cons vI (.cons (.mp 0) .nil),vI] [(0,.pmap (.int .i64) (.map (.int .i64) .bool) 0)] 53 Rj [0] (.bx (u3 l9))
theorem FY:hS FX:=
 cO (hR [hD 1 4 []]) hz aF Tryz.call146 Tryz.func146
def kI:Nat→Zm×Int×Int×Zv×Int×Int×Int×cF×ZN→Option (cz (Zm×Int×Int×Int×ZN) (cz (Int×ZN) (Int×dm))):=aH fun rec8 ⟨i,j,k,e,d,c,f,h,g⟩=>if(decide (c<d))=true then(if 0≤c then(if c<(List.length e:Int) then(Option.bind (l9 f (nth aK e c).2.2.1 g) fun⟨a,b⟩=>if(!a)=true then(bP (bP (some (140,0,(none:Option ZN),())))) else(if cp (.int .i64) h.2.1 b=true then(if aU (.int .i64) h.2.1 h.2.1=true then(if List.length (bT (bJ (.int .i64) (.map (.int .i64) .bool) h.2.1 b))+1≤aC then(rec8 (i,j,k,e,d,aV (c+1),f,h,bz (.int .i64) h.2.1 (some (bz (.int .i64) (nth aK e c).2.2.1 true (bT (bJ (.int .i64) (.map (.int .i64) .bool) h.2.1 b)))) b)) else none) else none) else none)) else none) else none) else(some (.brk (i,j,k,f,g)))
def ng:Nat→Zm×Int×Int×Int×ZN→Option (cz (Int×ZN) (Int×dm)):=aH fun Z9 ⟨p,o,n,q,r⟩=>if(decide (n<o))=true then(aE (U:=Zm×Int×Int×Int×ZN) (if 0≤n then(if n<(List.length p:Int) then(Option.bind (l9 q (nth bu p n).2.1 r) fun⟨a,b⟩=>if(!a)=true then(bP (bP (some (140,0,(none:Option ZN),())))) else(aE (U:=Zm×Int×Int×Int×cF×ZN) (if(!(cp (.int .i64) (nth bu p n).2.1 b))=true then(if cp (.int .i64) (nth bu p n).2.1 b=false then(if aU (.int .i64) (nth bu p n).2.1 (nth bu p n).2.1=true then(if List.length b+1≤aC then(some (.brk (p,o,n,q,nth bu p n,bz (.int .i64) (nth bu p n).2.1 (some ([]:Zn)) (bz (.int .i64) (nth bu p n).2.1 (Ty.aB (.map (.int .i64) .bool)) b)))) else none) else none) else none) else(some (.brk (p,o,n,q,nth bu p n,b)))) fun⟨d,e,f,g,c,h⟩=>kI (Int.toNat (List.length c.2.2.1:Int)+1) (d,e,f,c.2.2.1,(List.length c.2.2.1:Int),0,g,c,h))) else none) else none) fun⟨i,j,k,l,m⟩=>Z9 (i,j,aV (k+1),l,m)) else(some (.brk (q,r)))
def f95(a0:cK):Option (Int×dm):=
 aE (U:=Int×ZN) (ng (Int.toNat (List.length a0.2.2.2.1:Int)+1) (a0.2.2.2.1,(List.length a0.2.2.2.1:Int),0,(List.length a0.2.2.1:Int),([]:ZN))) fun⟨a,b⟩=>some (0,a,some b,())
def Rk:SS:=⟨60,100,[tP 2 18,tP 5 21,(14,.val (.slice 96 bu)),tI 15,tI 16],[(18,.var jR (.cons vI (.cons (.mp 27) .nil))),(21,bV bu),(27,.pmap (.int .i64) (.map (.int .i64) .bool) 0)],[]⟩
def LB:SS:=⟨60,100,[tP 2 18,(14,.val (.slice 96 bu)),tI 15,tI 16],[(18,.var jR (.cons vI (.cons (.mp 27) .nil))),(27,.pmap (.int .i64) (.map (.int .i64) .bool) 0)],[]⟩
def Rl:SS:=⟨60,100,[tP 2 18],[(18,.var jR (.cons vI (.cons (.mp 27) .nil))),(27,.pmap (.int .i64) (.map (.int .i64) .bool) 0)],[]⟩
def Rm:SS:=⟨60,100,[tP 2 18,tP 5 21,(14,.val (.slice 96 bu)),tI 15,tI 16,(38,.val (.slice 96 aK)),tI 39,tI 40],[(18,.var jR (.cons vI (.cons (.mp 27) .nil))),(21,bV bu),(27,.pmap (.int .i64) (.map (.int .i64) .bool) 0)],[]⟩
def Ro:SS:=⟨60,100,[tP 2 18,tI 3],[(18,bV jR)],[]⟩
def WU:aT:=aD G [.cell 2 199,.tmp 3] 95 [.val fe] [] 100 Ro [] (.bx (u1 f95))
theorem WV:hS WU:=
 cO ⟨[(2,⟨[.DJ 27 0],[],[],none,[],[],[]⟩),hE 5 [cB 0 [(0,27)] []],(8,⟨[],[],[],none,[],[.map 0 27 0 (.c 5 [.bZ 1])],[.jH 27]⟩),hE 12 [cB 0 [(0,27)] []],(14,⟨[],[],[],none,[],[.map 1 27 76 (.c 5 [.bZ 1])],[.jH 27]⟩),(17,⟨[.Cc 27],[],[],none,[],[],[]⟩)],[(9,Rk),(16,LB),(17,Rl)],[],[(3,⟨LB,fun u2=>Int.toNat u2.2.1+1⟩),(10,⟨Rm,fun u7=>Int.toNat u7.2.2.2.2.1+1⟩)],[],[]⟩ (hq FY hz) aF Tryz.call95 Tryz.func95
def xX(a0:dm):Option dm:=
 some a0
def Rp:SS:=⟨4,44,[(2,.func 147 .nil (.cons (pP 17) .nil))],[(17,bV jR)],[]⟩
def Jw:aT:=aD G [.tmp 2] 96 [.val jR] [] 44 Rp [17] (.bx (u1 xX))
theorem Jx:hS Jw:=
 cO (hR []) hz aF Tryz.call96 Tryz.func96
end Go.Proofs.YtgdcjlldafmomaaGreat
