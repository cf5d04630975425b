/- part -/
import Derived.Test.YtgdcjlldafmomaaGreatF2
noncomputable section
namespace Go.Proofs.YtgdcjlldafmomaaGreat
open Go.Ax
def f155(a0:jj)(a1:jj):Zl:=
 Option.bind (α:=Bool) (Option.bind (f97 a0.1 a1.1) fun y1=>if y1=true then(if(decide (a0.2.1=a1.2.1))=true then(Option.bind (f63 a0.2.2.1 a1.2.2.1) fun y2=>if y2=true then(some (decide (a0.2.2.2.1=a1.2.2.2.1))) else(some false)) else(some false)) else(some false)) fun v3=>some v3
def Qj:SS:=⟨31,71,[(4,vB)],[],[]⟩
def Qk:aW:=aF G [.tmp 4] 155 [.val eE,.val eE] [] 71 Qj [] (.bH (u2 f155))
theorem Ql:hS Qk:=
 cO (hR [hD 1 4 [cA 0,cA 1]]) (hq Ou (hq XJ hz)) aJ Tryz.call155 Tryz.func155
def Aa:Nat→List jj×List jj×ZY→Zq:=aK fun abG ⟨d,c,b,a⟩=>if(decide (a<b))=true then(if 0≤a then(if a<(List.length c:Int) then(if 0≤a then(if a<(List.length d:Int) then(Option.bind (f155 (nth eE c a) (nth eE d a)) fun y4=>if(!y4)=true then(cn (some false)) else(abG (d,c,b,aZ (a+1)))) else none) else none) else none) else none) else(some (.brk ()))
def vY(a0:List jj)(a1:List jj):Zl:=
 if(!decide ((List.length a0:Int)=(List.length a1:Int)))=true then(some false) else(aG (U:=Unit) (Aa (Int.toNat (List.length a0:Int)+1) (a1,a0,(List.length a0:Int),0)) fun _=>some true)
def Qm:SS:=⟨32,72,[(1,.val (.slice 72 eE)),(2,.func 155 .nil .nil),(15,.val (.slice 72 eE)),tI 16,tI 17],[],[]⟩
def GS:aW:=aF G [.tmp 6] 154 [.val (.slice 72 eE),.val (.slice 72 eE),.func 155 .nil .nil] [] 72 Ox [] (.bH (u2 vY))
theorem GU:hS GS:=
 cO ⟨[hA 7 0],[(10,Ow)],[],[(4,⟨Qm,fun u2=>Int.toNat u2.2.2.1+1⟩)],[],[]⟩ (hq Ql hz) aJ Tryz.call154 Tryz.func154
def f100(a0:ll)(a1:ll):Zl:=
 Option.bind (α:=Bool) (if(decide (a0.1=a1.1))=true then(if(decide (a0.2.1=a1.2.1))=true then(if(decide (a0.2.2.1=a1.2.2.1))=true then(if(decide (a0.2.2.2.1=a1.2.2.2.1))=true then(Option.bind (xO a0.2.2.2.2.1 a1.2.2.2.2.1) fun y1=>if y1=true then(Option.bind (vY a0.2.2.2.2.2.1 a1.2.2.2.2.2.1) fun y2=>some y2) else(some false)) else(some false)) else(some false)) else(some false)) else(some false)) fun v3=>some v3
def Qn:SS:=⟨45,85,[(4,vB)],[],[]⟩
def Qo:aW:=aF G [.tmp 4] 100 [.val bJ,.val bJ] [] 85 Qn [] (.bH (u2 f100))
theorem Qp:hS Qo:=
 cO (hR [hD 1 4 [cA 0,cA 1]]) (hq Jh (hq GU hz)) aJ Tryz.call100 Tryz.func100
def Dr:Nat→ZB×ZB×ZY→Zq:=aK fun abG ⟨d,c,b,a⟩=>if(decide (a<b))=true then(if 0≤a then(if a<(List.length c:Int) then(if 0≤a then(if a<(List.length d:Int) then(Option.bind (f100 (nth bJ c a) (nth bJ d a)) fun y4=>if(!y4)=true then(cn (some false)) else(abG (d,c,b,aZ (a+1)))) else none) else none) else none) else none) else(some (.brk ()))
def Ab(a0:ZB)(a1:ZB):Zl:=
 if(!decide ((List.length a0:Int)=(List.length a1:Int)))=true then(some false) else(aG (U:=Unit) (Dr (Int.toNat (List.length a0:Int)+1) (a1,a0,(List.length a0:Int),0)) fun _=>some true)
def GV:SS:=⟨32,72,[],[],[]⟩
def Qq:SS:=⟨32,72,[(1,.val (.slice 96 bJ)),(2,.func 100 .nil .nil),(15,.val (.slice 96 bJ)),tI 16,tI 17],[],[]⟩
def GW:SS:=⟨32,72,[(6,vB)],[],[]⟩
def KW:aW:=aF G [.tmp 6] 99 [.val (.slice 96 bJ),.val (.slice 96 bJ),.func 100 .nil .nil] [] 72 GW [] (.bH (u2 Ab))
theorem KX:hS KW:=
 cO ⟨[hA 7 0],[(10,GV)],[],[(4,⟨Qq,fun u2=>Int.toNat u2.2.2.1+1⟩)],[],[]⟩ (hq Qp hz) aJ Tryz.call99 Tryz.func99
def GX:Nat→Zv×Zv×ZY→Zq:=aK fun abG ⟨c,d,b,a⟩=>if(decide (a<b))=true then(if 0≤a then(if a<(List.length c:Int) then(if 0≤a then(if a<(List.length d:Int) then(if(!aX aL (nth aL c a) (nth aL d a))=true then(cn (some false)) else(abG (c,d,b,aZ (a+1)))) else none) else none) else none) else none) else(some (.brk ()))
def f156(a0:Zv)(a1:Zv):Zl:=
 if(!decide ((List.length a0:Int)=(List.length a1:Int)))=true then(some false) else(aG (U:=Unit) (GX (Int.toNat (List.length a0:Int)+1) (a0,a1,(List.length a0:Int),0)) fun _=>some true)
def Qr:SS:=⟨26,66,[(0,.val (.slice 96 aL)),(1,.val (.slice 96 aL)),tI 12,tI 13],[],[]⟩
def Qs:aW:=aF G [.tmp 4] 156 [.val (.slice 96 aL),.val (.slice 96 aL)] [] 66 zw [] (.bH (u2 f156))
theorem Qt:hS Qs:=
 cO ⟨[],[(9,zv)],[],[(4,⟨Qr,fun u2=>Int.toNat u2.2.2.1+1⟩)],[],[]⟩ hz aJ Tryz.call156 Tryz.func156
def GY:Nat→Zy×Zy×ZY→Zq:=aK fun abG ⟨c,d,b,a⟩=>if(decide (a<b))=true then(if 0≤a then(if a<(List.length c:Int) then(if 0≤a then(if a<(List.length d:Int) then(if(!aX aQ (nth aQ c a) (nth aQ d a))=true then(cn (some false)) else(abG (c,d,b,aZ (a+1)))) else none) else none) else none) else none) else(some (.brk ()))
def f157(a0:Zy)(a1:Zy):Zl:=
 if(!decide ((List.length a0:Int)=(List.length a1:Int)))=true then(some false) else(aG (U:=Unit) (GY (Int.toNat (List.length a0:Int)+1) (a0,a1,(List.length a0:Int),0)) fun _=>some true)
def Qu:SS:=⟨26,66,[(0,.val (.slice 120 aQ)),(1,.val (.slice 120 aQ)),tI 12,tI 13],[],[]⟩
def Qv:aW:=aF G [.tmp 4] 157 [.val (.slice 120 aQ),.val (.slice 120 aQ)] [] 66 zw [] (.bH (u2 f157))
theorem Qw:hS Qv:=
 cO ⟨[],[(9,zv)],[],[(4,⟨Qu,fun u2=>Int.toNat u2.2.2.1+1⟩)],[],[]⟩ hz aJ Tryz.call157 Tryz.func157
def GZ:Nat→Zz×Zz×ZY→Zq:=aK fun abG ⟨c,d,b,a⟩=>if(decide (a<b))=true then(if 0≤a then(if a<(List.length c:Int) then(if 0≤a then(if a<(List.length d:Int) then(if(!aX aY (nth aY c a) (nth aY d a))=true then(cn (some false)) else(abG (c,d,b,aZ (a+1)))) else none) else none) else none) else none) else(some (.brk ()))
def f158(a0:Zz)(a1:Zz):Zl:=
 if(!decide ((List.length a0:Int)=(List.length a1:Int)))=true then(some false) else(aG (U:=Unit) (GZ (Int.toNat (List.length a0:Int)+1) (a0,a1,(List.length a0:Int),0)) fun _=>some true)
def Qx:SS:=⟨26,66,[(0,.val (.slice 80 aY)),(1,.val (.slice 80 aY)),tI 12,tI 13],[],[]⟩
def Qy:aW:=aF G [.tmp 4] 158 [.val (.slice 80 aY),.val (.slice 80 aY)] [] 66 zw [] (.bH (u2 f158))
theorem Qz:hS Qy:=
 cO ⟨[],[(9,zv)],[],[(4,⟨Qx,fun u2=>Int.toNat u2.2.2.1+1⟩)],[],[]⟩ hz aJ Tryz.call158 Tryz.func158
def f102(a0:cQ)(a1:cQ):Zl:=
 Option.bind (α:=Bool) (if(decide (a0.1=a1.1))=true then(if(decide (a0.2.1=a1.2.1))=true then(Option.bind (f156 a0.2.2.1 a1.2.2.1) fun y1=>if y1=true then(Option.bind (f157 a0.2.2.2.1 a1.2.2.2.1) fun y2=>if y2=true then(Option.bind (f158 a0.2.2.2.2.1 a1.2.2.2.2.1) fun y3=>some y3) else(some false)) else(some false)) else(some false)) else(some false)) fun v4=>some v4
def QA:SS:=⟨38,78,[(4,vB)],[],[]⟩
def QB:aW:=aF G [.tmp 4] 102 [.val bD,.val bD] [] 78 QA [] (.bH (u2 f102))
theorem QC:hS QB:=
 cO (hR [hD 1 4 [cA 0,cA 1,cA 2]]) (hq Qt (hq Qw (hq Qz hz))) aJ Tryz.call102 Tryz.func102
def Ac:Nat→Zm×Zm×ZY→Zq:=aK fun abG ⟨d,c,b,a⟩=>if(decide (a<b))=true then(if 0≤a then(if a<(List.length c:Int) then(if 0≤a then(if a<(List.length d:Int) then(Option.bind (f102 (nth bD c a) (nth bD d a)) fun y4=>if(!y4)=true then(cn (some false)) else(abG (d,c,b,aZ (a+1)))) else none) else none) else none) else none) else(some (.brk ()))
def vZ(a0:Zm)(a1:Zm):Zl:=
 if(!decide ((List.length a0:Int)=(List.length a1:Int)))=true then(some false) else(aG (U:=Unit) (Ac (Int.toNat (List.length a0:Int)+1) (a1,a0,(List.length a0:Int),0)) fun _=>some true)
def QD:SS:=⟨32,72,[(1,.val (.slice 96 bD)),(2,.func 102 .nil .nil),(15,.val (.slice 96 bD)),tI 16,tI 17],[],[]⟩
def G0:aW:=aF G [.tmp 6] 101 [.val (.slice 96 bD),.val (.slice 96 bD),.func 102 .nil .nil] [] 72 GW [] (.bH (u2 vZ))
theorem G1:hS G0:=
 cO ⟨[hA 7 0],[(10,GV)],[],[(4,⟨QD,fun u2=>Int.toNat u2.2.2.1+1⟩)],[],[]⟩ (hq QC hz) aJ Tryz.call101 Tryz.func101
def G2:Nat→Zr×Zr×ZY→Zq:=aK fun abG ⟨c,d,b,a⟩=>if(decide (a<b))=true then(if 0≤a then(if a<(List.length c:Int) then(if 0≤a then(if a<(List.length d:Int) then(if(!aX aS (nth aS c a) (nth aS d a))=true then(cn (some false)) else(abG (c,d,b,aZ (a+1)))) else none) else none) else none) else none) else(some (.brk ()))
def f159(a0:Zr)(a1:Zr):Zl:=
 if(!decide ((List.length a0:Int)=(List.length a1:Int)))=true then(some false) else(aG (U:=Unit) (G2 (Int.toNat (List.length a0:Int)+1) (a0,a1,(List.length a0:Int),0)) fun _=>some true)
def QE:aW:=aF G [.tmp 4] 159 [.val (.slice 56 aS),.val (.slice 56 aS)] [] 66 zw [] (.bH (u2 f159))
theorem QF:hS QE:=
 cO ⟨[],[(9,zv)],[],[(4,⟨Ov,fun u2=>Int.toNat u2.2.2.1+1⟩)],[],[]⟩ hz aJ Tryz.call159 Tryz.func159
def f104(a0:qh)(a1:qh):Zl:=
 Option.bind (α:=Bool) (if(decide (a0.1=a1.1))=true then(if(decide (a0.2.1=a1.2.1))=true then(if(decide (a0.2.2.1=a1.2.2.1))=true then(if(decide (a0.2.2.2.1=a1.2.2.2.1))=true then(Option.bind (f159 a0.2.2.2.2.1 a1.2.2.2.2.1) fun y1=>some y1) else(some false)) else(some false)) else(some false)) else(some false)) fun v2=>some v2
def QG:SS:=⟨38,78,[(4,vB)],[],[]⟩
def QH:aW:=aF G [.tmp 4] 104 [.val eZ,.val eZ] [] 78 QG [] (.bH (u2 f104))
theorem QI:hS QH:=
 cO (hR [hD 1 4 [cA 0]]) (hq QF hz) aJ Tryz.call104 Tryz.func104
def Ad:Nat→ZC×ZC×ZY→Zq:=aK fun abG ⟨d,c,b,a⟩=>if(decide (a<b))=true then(if 0≤a then(if a<(List.length c:Int) then(if 0≤a then(if a<(List.length d:Int) then(Option.bind (f104 (nth eZ c a) (nth eZ d a)) fun y4=>if(!y4)=true then(cn (some false)) else(abG (d,c,b,aZ (a+1)))) else none) else none) else none) else none) else(some (.brk ()))
def wa(a0:ZC)(a1:ZC):Zl:=
 if(!decide ((List.length a0:Int)=(List.length a1:Int)))=true then(some false) else(aG (U:=Unit) (Ad (Int.toNat (List.length a0:Int)+1) (a1,a0,(List.length a0:Int),0)) fun _=>some true)
def QJ:SS:=⟨32,72,[(1,.val (.slice 72 eZ)),(2,.func 104 .nil .nil),(15,.val (.slice 72 eZ)),tI 16,tI 17],[],[]⟩
def G3:aW:=aF G [.tmp 6] 103 [.val (.slice 72 eZ),.val (.slice 72 eZ),.func 104 .nil .nil] [] 72 GW [] (.bH (u2 wa))
theorem G4:hS G3:=
 cO ⟨[hA 7 0],[(10,GV)],[],[(4,⟨QJ,fun u2=>Int.toNat u2.2.2.1+1⟩)],[],[]⟩ (hq QI hz) aJ Tryz.call103 Tryz.func103
def G5:Nat→List oe×List oe×ZY→Zq:=aK fun abG ⟨c,d,b,a⟩=>if(decide (a<b))=true then(if 0≤a then(if a<(List.length c:Int) then(if 0≤a then(if a<(List.length d:Int) then(if(!aX eF (nth eF c a) (nth eF d a))=true then(cn (some false)) else(abG (c,d,b,aZ (a+1)))) else none) else none) else none) else none) else(some (.brk ()))
def f160(a0:List oe)(a1:List oe):Zl:=
 if(!decide ((List.length a0:Int)=(List.length a1:Int)))=true then(some false) else(aG (U:=Unit) (G5 (Int.toNat (List.length a0:Int)+1) (a0,a1,(List.length a0:Int),0)) fun _=>some true)
def QK:SS:=⟨26,66,[(0,.val (.slice 48 eF)),(1,.val (.slice 48 eF)),tI 12,tI 13],[],[]⟩
def QL:aW:=aF G [.tmp 4] 160 [.val (.slice 48 eF),.val (.slice 48 eF)] [] 66 zw [] (.bH (u2 f160))
theorem QM:hS QL:=
 cO ⟨[],[(9,zv)],[],[(4,⟨QK,fun u2=>Int.toNat u2.2.2.1+1⟩)],[],[]⟩ hz aJ Tryz.call160 Tryz.func160
def f106(a0:nj)(a1:nj):Zl:=
 Option.bind (α:=Bool) (if(decide (a0.1=a1.1))=true then(if(decide (a0.2.2.1=a1.2.2.1))=true then(Option.bind (f160 a0.2.1 a1.2.1) fun y1=>some y1) else(some false)) else(some false)) fun v2=>some v2
def QN:SS:=⟨24,64,[(4,vB)],[],[]⟩
def QO:aW:=aF G [.tmp 4] 106 [.val du,.val du] [] 64 QN [] (.bH (u2 f106))
theorem QP:hS QO:=
 cO (hR [hD 1 4 [cA 0]]) (hq QM hz) aJ Tryz.call106 Tryz.func106
def Ae:Nat→ZA×ZA×ZY→Zq:=aK fun abG ⟨d,c,b,a⟩=>if(decide (a<b))=true then(if 0≤a then(if a<(List.length c:Int) then(if 0≤a then(if a<(List.length d:Int) then(Option.bind (f106 (nth du c a) (nth du d a)) fun y4=>if(!y4)=true then(cn (some false)) else(abG (d,c,b,aZ (a+1)))) else none) else none) else none) else none) else(some (.brk ()))
def wc(a0:ZA)(a1:ZA):Zl:=
 if(!decide ((List.length a0:Int)=(List.length a1:Int)))=true then(some false) else(aG (U:=Unit) (Ae (Int.toNat (List.length a0:Int)+1) (a1,a0,(List.length a0:Int),0)) fun _=>some true)
def QQ:SS:=⟨32,72,[(1,.val (.slice 48 du)),(2,.func 106 .nil .nil),(15,.val (.slice 48 du)),tI 16,tI 17],[],[]⟩
def G6:aW:=aF G [.tmp 6] 105 [.val (.slice 48 du),.val (.slice 48 du),.func 106 .nil .nil] [] 72 GW [] (.bH (u2 wc))
theorem G7:hS G6:=
 cO ⟨[hA 7 0],[(10,GV)],[],[(4,⟨QQ,fun u2=>Int.toNat u2.2.2.1+1⟩)],[],[]⟩ (hq QP hz) aJ Tryz.call105 Tryz.func105
def f62(a0:cY)(a1:cY):Zl:=
 Option.bind (α:=Bool) (Option.bind (f97 a0.1 a1.1) fun y1=>if y1=true then(Option.bind (f98 a0.2.1 a1.2.1) fun y2=>if y2=true then(Option.bind (Ab a0.2.2.1 a1.2.2.1) fun y3=>if y3=true then(Option.bind (vZ a0.2.2.2.1 a1.2.2.2.1) fun y4=>if y4=true then(Option.bind (wa a0.2.2.2.2.1 a1.2.2.2.2.1) fun y5=>if y5=true then(Option.bind (wc a0.2.2.2.2.2.1 a1.2.2.2.2.2.1) fun y6=>some y6) else(some false)) else(some false)) else(some false)) else(some false)) else(some false)) fun v7=>some v7
def QR:SS:=⟨45,85,[(4,vB)],[],[]⟩
def X8:aW:=aF G [.tmp 4] 62 [.val gS,.val gS] [] 85 QR [] (.bH (u2 f62))
theorem Xl:hS X8:=
 cO (hR [hD 1 4 [cA 0,cA 1,cA 2,cA 3,cA 4,cA 5]]) (hq Ou (hq x98 (hq KX (hq G1 (hq G4 (hq G7 hz)))))) aJ Tryz.call62 Tryz.func62
def f56(a0:cY):ZM:=
 Option.bind (f80 a0) fun⟨b,a⟩=>if(!decide (a=(0:Int)))=true then(some a) else(Option.bind (f62 b a0) fun y2=>if(!y2)=true then(some (160:Int)) else(some (0:Int)))
def QS:SS:=⟨16,56,[tI 2],[],[]⟩
def X9:aW:=aF G [.tmp 2] 56 [.val gS] [] 56 QS [] (.bH (u1 f56))
theorem Ya:hS X9:=
 cO (hR [hA 1 0,hA 4 1]) (hq x80 (hq Xl hz)) aJ Tryz.call56 Tryz.func56
def f132(a0:nj):Zl:=
 some (decide ((64:Int)<(List.length a0.2.1:Int)))
def QT:SS:=⟨7,47,[(2,vB)],[],[]⟩
def QU:aW:=aF G [.tmp 2] 132 [.val du] [] 47 QT [] (.bH (u1 f132))
theorem QV:hS QU:=
 cO (hR []) hz aJ Tryz.call132 Tryz.func132
def Af:Nat→ZA×ZY→Option (cW Unit Int):=aK fun abG ⟨c,b,a⟩=>if(decide (a<b))=true then(if 0≤a then(if a<(List.length c:Int) then(Option.bind (f132 (nth du c a)) fun y4=>if y4=true then(cn (some a)) else(abG (c,b,aZ (a+1)))) else none) else none) else(some (.brk ()))
def we(a0:ZA):ZM:=
 aG (U:=Unit) (Af (Int.toNat (List.length a0:Int)+1) (a0,(List.length a0:Int),0)) fun _=>some (-1:Int)
def QW:SS:=⟨19,59,[],[],[]⟩
def QX:SS:=⟨19,59,[(0,.val (.slice 48 du)),(1,.func 132 .nil .nil),tI 7,tI 8],[],[]⟩
def QY:SS:=⟨19,59,[tI 4],[],[]⟩
def G8:aW:=aF G [.tmp 4] 202 [.val (.slice 48 du),.func 132 .nil .nil] [] 59 QY [] (.bH (u1 we))
theorem G9:hS G8:=
 cO ⟨[hA 4 0],[(7,QW)],[],[(2,⟨QX,fun u2=>Int.toNat u2.2.1+1⟩)],[],[]⟩ (hq QV hz) aJ Tryz.call202 Tryz.func202
def rJ(a0:ZA):Zl:=
 Option.bind (we a0) fun y1=>some (decide ((0:Int)≤y1))
def EA:SS:=⟨9,49,[(4,vB)],[],[]⟩
def Ha:aW:=aF G [.tmp 4] 131 [.val (.slice 48 du),.func 132 .nil .nil] [] 49 EA [] (.bH (u1 rJ))
theorem Hb:hS Ha:=
 cO (hR [hA 1 0]) (hq G9 hz) aJ Tryz.call131 Tryz.func131
def f81(a0:dx):Zl:=
 Option.bind (α:=Bool) (if(decide ((8:Int)<(List.length a0.1.1:Int)))=true then(some true) else(if(decide ((64:Int)<(List.length a0.1.2.1:Int)))=true then(some true) else(if(decide ((16:Int)<(List.length a0.1.2.2.1:Int)))=true then(some true) else(if(decide ((16:Int)<(List.length a0.1.2.2.2.1:Int)))=true then(some true) else(if(decide ((16:Int)<(List.length a0.1.2.2.2.2.1:Int)))=true then(some true) else(some (decide ((8:Int)<(List.length a0.1.2.2.2.2.2.1:Int))))))))) fun v1=>if v1=true then(some false) else(Option.bind (rJ a0.1.2.2.2.2.2.1) fun y2=>some (!y2))
def QZ:SS:=⟨48,88,[(2,vB)],[],[]⟩
def Yb:aW:=aF G [.tmp 2] 81 [.val dn] [] 88 QZ [] (.bH (u1 f81))
theorem Yd:hS Yb:=
 cO (hR [hD 1 42 [],hA 3 0]) (hq Hb hz) aJ Tryz.call81 Tryz.func81
def f85(a0:dx)(a1:gU):Zl:=
 Option.bind (α:=Bool) (if(decide ((1:Int)≤a1.2.2.2.2.1))=true then(if(decide (a1.2.2.2.2.1≤(1099511627776:Int)))=true then(if(decide ((0:Int)≤a1.2.2.2.1))=true then(if(decide (a1.2.2.2.1<(List.length a0.1.2.1:Int)))=true then(if 0≤a1.2.2.2.1 then(if a1.2.2.2.1<(List.length a0.1.2.1:Int) then(some (decide ((nth aS a0.1.2.1 a1.2.2.2.1).2.2.2.2.1=(1:Int)))) else none) else none) else(some false)) else(some false)) else(some false)) else(some false)) fun v1=>some v1
def Q2:SS:=⟨38,78,[(4,vB)],[],[]⟩
def Ye:aW:=aF G [.tmp 4] 85 [.val dn,.val aS] [] 78 Q2 [] (.bH (u2 f85))
theorem Xm:hS Ye:=
 cO (hR [hD 1 4 []]) hz aJ Tryz.call85 Tryz.func85
def oD(a0:gU)(a1:dx):Kp:=
 Option.bind (f85 a1 a0) fun y1=>some (!y1,a1)
def Q3:SS:=⟨8,48,[(3,vB)],[(0,.var (.aR .func) (.dc 85 dn))],[]⟩
def Hc:aW:=aF G [.tmp 3] 138 [.val aS,pP 0] [(0,.var (.aR .func) (.dc 85 dn))] 48 Q3 [0] (.bH (u2 oD))
theorem Hd:hS Hc:=
 cO (hR [hA 1 0]) (hq Xm hz) aJ Tryz.call138 Tryz.func138
def Ag:Nat→Zr×Int×zQ→Option (cW dx zQ):=aK fun abG ⟨e,d,c,f⟩=>if(decide (c<d))=true then(if 0≤c then(if c<(List.length e:Int) then(Option.bind (oD (nth aS e c) f) fun⟨a,b⟩=>if a=true then(cn (some (c,b))) else(abG (e,d,aZ (c+1),b))) else none) else none) else(some (.brk f))
def wg(a0:Zr)(a1:dx):Option zQ:=
 aG (U:=dx) (Ag (Int.toNat (List.length a0:Int)+1) (a0,(List.length a0:Int),0,a1)) fun v1=>some ((-1:Int),v1)
def Q4:SS:=⟨19,59,[],[(0,.var (.aR .func) (.dc 85 dn))],[]⟩
def Q5:SS:=⟨19,59,[(0,.val (.slice 56 aS)),(1,.func 138 .nil (.cons (pP 0) .nil)),tI 7,tI 8],[(0,.var (.aR .func) (.dc 85 dn))],[]⟩
def Q6:SS:=⟨19,59,[tI 4],[(0,.var (.aR .func) (.dc 85 dn))],[]⟩
def He:aW:=aF G [.tmp 4] 206 [.val (.slice 56 aS),.func 138 .nil (.cons (pP 0) .nil)] [(0,.var (.aR .func) (.dc 85 dn))] 59 Q6 [0] (.bH (u2 wg))
theorem Hf:hS He:=
 cO ⟨[hE 4 [cB 0 [(0,0)] []]],[(7,Q4)],[],[(2,⟨Q5,fun u2=>Int.toNat u2.2.1+1⟩)],[],[]⟩ (hq Hd hz) aJ Tryz.call206 Tryz.func206
def wi(a0:Zr)(a1:dx):Kp:=
 Option.bind (wg a0 a1) fun⟨a,b⟩=>some (decide ((0:Int)≤a),b)
def Q7:SS:=⟨9,49,[(4,vB)],[(0,.var (.aR .func) (.dc 85 dn))],[]⟩
def Hg:aW:=aF G [.tmp 4] 137 [.val (.slice 56 aS),.func 138 .nil (.cons (pP 0) .nil)] [(0,.var (.aR .func) (.dc 85 dn))] 49 Q7 [0] (.bH (u2 wi))
theorem Hh:hS Hg:=
 cO (hR [hE 1 [cB 0 [(0,0)] []]]) (hq Hf hz) aJ Tryz.call137 Tryz.func137
def wj(a0:Zr)(a1:dx):Zl:=
 Option.bind (wi a0 a1) fun⟨a,_⟩=>some (!a)
def KY:aW:=aF G [.tmp 4] 84 [.val (.slice 56 aS),.dc 85 dn] [] 49 EA [] (.bH (u2 wj))
theorem KZ:hS KY:=
 cO (hR [hE 1 [cB 0 [(0,19)] []]]) (hq Hh hz) aJ Tryz.call84 Tryz.func84
def Hi:Option (List (Option Nat)):=
 some [none,some 176,some 177,some 178,some 179]
def Q8:SS:=⟨2,42,[tP 0 16],[(16,.var (.fns 5) (.val (.fns 5)))],[]⟩
def Hj:aW:=aF G [.cell 0 223] 117 [] [] 42 Q8 [] (.bH (fun _=>Hi))
theorem Hk:hS Hj:=
 cO (hR []) hz aJ Tryz.call117 Tryz.func117
def wm:Nat→ZG×Int×Int×List (Zg×Bool)→Zq:=aK fun abG ⟨c,b,a,d⟩=>if(decide (a<b))=true then(if 0≤a then(if a<(List.length c:Int) then(if(bz .str .bool (nth .str c a) d)=true then(cn (some false)) else(if List.length d+1≤aE then(abG (c,b,aZ (a+1),bE .str (nth .str c a) true d)) else none)) else none) else none) else(some (.brk ()))
def f180(a0:ZG):Zl:=
 aG (U:=Unit) (wm (Int.toNat (List.length a0:Int)+1) (a0,(List.length a0:Int),0,([]:List (Zg×Bool)))) fun _=>some true
def Q9:SS:=⟨21,61,[],[],[]⟩
def Ra:SS:=⟨21,61,[(3,.mp 24),(9,.val (.slice 16 .str)),tI 10,tI 11],[(24,.map .str .bool)],[]⟩
def Rb:SS:=⟨21,61,[(2,vB)],[],[]⟩
def Rc:aW:=aF G [.tmp 2] 180 [.val (.slice 16 .str)] [] 61 Rb [] (.bH (u1 f180))
theorem Re:hS Rc:=
 cO ⟨[],[(9,Q9)],[],[(3,⟨Ra,fun u2=>Int.toNat u2.2.1+1⟩)],[],[]⟩ hz aJ Tryz.call180 Tryz.func180
def f179(a0:ju)(_a1:Int):Zl:=
 Option.bind (α:=Bool) (if(decide (a0.2.1=(0:Int)))=true then(if(decide (a0.2.2.1=(aZ ((List.length a0.2.2.2.2.2.1:Int) -(1:Int)))))=true then(if(decide (a0.2.2.2.2.1=(-1:Int)))=true then(if(decide ((1:Int)≤(List.length a0.2.2.2.2.2.1:Int)))=true then(if(decide ((List.length a0.2.2.2.2.2.1:Int)≤(16:Int)))=true then(Option.bind (f180 a0.2.2.2.2.2.1) fun y1=>some y1) else(some false)) else(some false)) else(some false)) else(some false)) else(some false)) fun v2=>some v2
def Rf:SS:=⟨39,79,[(4,vB)],[],[]⟩
def Rg:aW:=aF G [.tmp 4] 179 [.val lT,vI] [] 79 Rf [] (.bH (u2 f179))
theorem Rh:hS Rg:=
 cO (hR [hD 1 4 [cA 0]]) (hq Re hz) aJ Tryz.call179 Tryz.func179
def f178(a0:ju)(_a1:Int):Zl:=
 Option.bind (α:=Bool) (if(decide (a0.2.1=(0:Int)))=true then(if(decide (a0.2.2.1=(4095:Int)))=true then(if(decide (a0.2.2.2.2.1=(-1:Int)))=true then(some (decide ((List.length a0.2.2.2.2.2.1:Int)=(0:Int)))) else(some false)) else(some false)) else(some false)) fun v1=>some v1
def Nc:SS:=⟨24,64,[(4,vB)],[],[]⟩
def Ri:aW:=aF G [.tmp 4] 178 [.val lT,vI] [] 64 Nc [] (.bH (u2 f178))
theorem Rj:hS Ri:=
 cO (hR [hD 1 4 []]) hz aJ Tryz.call178 Tryz.func178
def f177(a0:ju)(_a1:Int):Zl:=
 Option.bind (α:=Bool) (if(decide (a0.2.1=(0:Int)))=true then(if(decide (a0.2.2.1=(1023:Int)))=true then(if(decide (a0.2.2.2.2.1=(-1:Int)))=true then(some (decide ((List.length a0.2.2.2.2.2.1:Int)=(0:Int)))) else(some false)) else(some false)) else(some false)) fun v1=>some v1
def Rk:aW:=aF G [.tmp 4] 177 [.val lT,vI] [] 64 Nc [] (.bH (u2 f177))
theorem Rl:hS Rk:=
 cO (hR [hD 1 4 []]) hz aJ Tryz.call177 Tryz.func177
def f176(a0:ju)(a1:Int):Zl:=
 Option.bind (α:=Bool) (if(decide ((0:Int)≤a0.2.1))=true then(if(decide (a0.2.1≤a0.2.2.1))=true then(if(decide (a0.2.2.1≤(1048576:Int)))=true then(if(decide ((-1:Int)≤a0.2.2.2.2.1))=true then(if(decide (a0.2.2.2.2.1<a1))=true then(some (decide ((List.length a0.2.2.2.2.2.1:Int)=(0:Int)))) else(some false)) else(some false)) else(some false)) else(some false)) else(some false)) fun v1=>some v1
def Rm:SS:=⟨37,77,[(4,vB)],[],[]⟩
def Ro:aW:=aF G [.tmp 4] 176 [.val lT,vI] [] 77 Rm [] (.bH (u2 f176))
theorem Rp:hS Ro:=
 cO (hR [hD 1 4 []]) hz aJ Tryz.call176 Tryz.func176
def f79(a0:dx)(a1:ju):Zl:=
 aG (U:=dx×ju) (Option.bind (α:=Bool) (if(decide (a1.1<(1:Int)))=true then(some true) else(some (decide ((4:Int)<a1.1)))) fun v2=>if v2=true then(cn (some false)) else(some (.brk (a0,a1)))) fun⟨b,a⟩=>if 0≤a.1 then(if a.1<(5:Int) then(if a.1=(0:Int) then none else(if a.1=(1:Int) then(Option.bind (f176 a (List.length b.1.2.1:Int)) fun y6=>some y6) else(if a.1=(2:Int) then(Option.bind (f177 a (List.length b.1.2.1:Int)) fun y5=>some y5) else(if a.1=(3:Int) then(Option.bind (f178 a (List.length b.1.2.1:Int)) fun y4=>some y4) else(if a.1=(4:Int) then(Option.bind (f179 a (List.length b.1.2.1:Int)) fun y3=>some y3) else none))))) else none) else none
def Rq:SS:=⟨23,63,[tP 2 18,tP 3 19],[(18,bV dn),(19,bV lT)],[]⟩
def Rr:SS:=⟨23,63,[(4,vB)],[],[]⟩
def Yf:aW:=aF G [.tmp 4] 79 [.val dn,.val lT] [] 63 Rr [] (.bH (u2 f79))
theorem Rs:hS Yf:=
 cO ⟨[hD 1 12 [],hE 3 [cA 0,⟨[1,2,3,4],[],[],[],[]⟩]],[(3,Rq)],[],[],[],[]⟩ (hq Hk (hq Rh (hq Rj (hq Rl (hq Rp hz))))) aJ Tryz.call79 Tryz.func79
def pN:Nat→ZD×Int×Int×Uf×zQ→Option (cW (ZD×Int×zQ) (cW Unit Bool)):=aK fun rec9 ⟨c,d,e,b,a,f⟩=>if(decide (a<(4:Int)))=true then(if 0≤a then(if a<(4:Int) then(Option.bind (α:=Bool) (if(decide ((nth (.int .i64) b a)<(0:Int)))=true then(some true) else(some (decide ((9:Int)<(nth (.int .i64) b a))))) fun v10=>if v10=true then(cn (cn (some false))) else(rec9 (c,d,e,b,aZ (a+1),f))) else none) else none) else(some (.brk (c,d,e,f)))
def wo:Nat→ZD×Int×zQ→Zq:=aK fun acm ⟨g,f,e,h⟩=>if(decide (e<f))=true then(aG (U:=ZD×Int×zQ) (if 0≤e then(if e<(List.length g:Int) then(Option.bind (f79 h (nth eo g e).2.1) fun y7=>if(!y7)=true then(cn (cn (some false))) else(pN (Int.toNat (4:Int)+1) (g,f,e,(nth eo g e).2.2.1,0,h))) else none) else none) fun⟨a,b,c,d⟩=>acm (a,b,aZ (c+1),d)) else(some (.brk ()))
def f87(a0:dx)(a1:ll):Zl:=
 aG (U:=dx×ll) (Option.bind (α:=Bool) (if(decide (a1.2.2.1<(0:Int)))=true then(some true) else(if(decide ((List.length a0.1.1:Int)≤a1.2.2.1))=true then(some true) else(if(decide (a1.2.2.2.1<(1:Int)))=true then(some true) else(if(decide ((255:Int)<a1.2.2.2.1))=true then(some true) else(if(decide ((List.length a1.2.2.2.2.1:Int)<(1:Int)))=true then(some true) else(if(decide ((12:Int)<(List.length a1.2.2.2.2.1:Int)))=true then(some true) else(if(0:Int)<(List.length a1.2.2.2.2.1:Int) then(some (!decide ((nth eo a1.2.2.2.2.1 (0:Int)).2.1.1=(3:Int)))) else none))))))) fun v2=>if v2=true then(cn (some false)) else(some (.brk (a0,a1)))) fun⟨b,a⟩=>aG (U:=Unit) (wo (Int.toNat (List.length a.2.2.2.2.1:Int)+1) (a.2.2.2.2.1,(List.length a.2.2.2.2.1:Int),0,b)) fun _=>some true
def Rt:SS:=⟨77,117,[tP 2 18,tP 3 19],[(18,bV dn),(19,bV bJ)],[]⟩
def Nf:SS:=⟨77,117,[tP 2 18,(53,.val (.slice 120 eo)),tI 54,tI 55],[(18,bV dn)],[]⟩
def Ru:SS:=⟨77,117,[],[],[]⟩
def Rv:SS:=⟨77,117,[tP 2 18,(53,.val (.slice 120 eo)),tI 54,tI 55,(65,.val Lq),tI 66],[(18,bV dn)],[]⟩
def Rw:SS:=⟨77,117,[(4,vB)],[],[]⟩
def Yg:aW:=aF G [.tmp 4] 87 [.val dn,.val bJ] [] 117 Rw [] (.bH (u2 f87))
theorem Yh:hS Yg:=
 cO ⟨[hD 1 51 [],hA 6 0,hD 11 74 []],[(3,Rt),(14,Nf),(15,Ru)],[],[(4,⟨Nf,fun u4=>Int.toNat u4.2.1+1⟩),(9,⟨Rv,fun _=>Int.toNat (4:Int)+1⟩)],[],[]⟩ (hq Rs hz) aJ Tryz.call87 Tryz.func87
def oE(a0:ll)(a1:dx):Kp:=
 Option.bind (f87 a1 a0) fun y1=>some (!y1,a1)
def Rx:SS:=⟨8,48,[(3,vB)],[(0,.var (.aR .func) (.dc 87 dn))],[]⟩
def Hl:aW:=aF G [.tmp 3] 140 [.val bJ,pP 0] [(0,.var (.aR .func) (.dc 87 dn))] 48 Rx [0] (.bH (u2 oE))
theorem Hm:hS Hl:=
 cO (hR [hA 1 0]) (hq Yh hz) aJ Tryz.call140 Tryz.func140
def Ah:Nat→ZB×Int×zQ→Option (cW dx zQ):=aK fun abG ⟨e,d,c,f⟩=>if(decide (c<d))=true then(if 0≤c then(if c<(List.length e:Int) then(Option.bind (oE (nth bJ e c) f) fun⟨a,b⟩=>if a=true then(cn (some (c,b))) else(abG (e,d,aZ (c+1),b))) else none) else none) else(some (.brk f))
def wq(a0:ZB)(a1:dx):Option zQ:=
 aG (U:=dx) (Ah (Int.toNat (List.length a0:Int)+1) (a0,(List.length a0:Int),0,a1)) fun v1=>some ((-1:Int),v1)
def Ry:SS:=⟨19,59,[],[(0,.var (.aR .func) (.dc 87 dn))],[]⟩
def Rz:SS:=⟨19,59,[(0,.val (.slice 96 bJ)),(1,.func 140 .nil (.cons (pP 0) .nil)),tI 7,tI 8],[(0,.var (.aR .func) (.dc 87 dn))],[]⟩
def RA:SS:=⟨19,59,[tI 4],[(0,.var (.aR .func) (.dc 87 dn))],[]⟩
def Hn:aW:=aF G [.tmp 4] 207 [.val (.slice 96 bJ),.func 140 .nil (.cons (pP 0) .nil)] [(0,.var (.aR .func) (.dc 87 dn))] 59 RA [0] (.bH (u2 wq))
theorem Ho:hS Hn:=
 cO ⟨[hE 4 [cB 0 [(0,0)] []]],[(7,Ry)],[],[(2,⟨Rz,fun u2=>Int.toNat u2.2.1+1⟩)],[],[]⟩ (hq Hm hz) aJ Tryz.call207 Tryz.func207
def wu(a0:ZB)(a1:dx):Kp:=
 Option.bind (wq a0 a1) fun⟨a,b⟩=>some (decide ((0:Int)≤a),b)
def RE:SS:=⟨9,49,[(4,vB)],[(0,.var (.aR .func) (.dc 87 dn))],[]⟩
def Hp:aW:=aF G [.tmp 4] 139 [.val (.slice 96 bJ),.func 140 .nil (.cons (pP 0) .nil)] [(0,.var (.aR .func) (.dc 87 dn))] 49 RE [0] (.bH (u2 wu))
theorem Hq:hS Hp:=
 cO (hR [hE 1 [cB 0 [(0,0)] []]]) (hq Ho hz) aJ Tryz.call139 Tryz.func139
def wv(a0:ZB)(a1:dx):Zl:=
 Option.bind (wu a0 a1) fun⟨a,_⟩=>some (!a)
def K0:aW:=aF G [.tmp 4] 86 [.val (.slice 96 bJ),.dc 87 dn] [] 49 EA [] (.bH (u2 wv))
theorem K1:hS K0:=
 cO (hR [hE 1 [cB 0 [(0,19)] []]]) (hq Hq hz) aJ Tryz.call86 Tryz.func86
def f78(a0:dx)(a1:Int)(a2:Int):Option (Bool×ju):=
 aG (U:=Int×Int×dx×Int×Int×Int×Zg×Int) (Option.bind (α:=Bool) (if(decide (a1<(0:Int)))=true then(some true) else(if(decide ((List.length a0.1.2.2.1:Int)≤a1))=true then(some true) else(if(decide (a2<(0:Int)))=true then(some true) else(if 0≤a1 then(if a1<(List.length a0.1.2.2.1:Int) then(some (decide ((List.length (nth bJ a0.1.2.2.1 a1).2.2.2.2.1:Int)≤a2))) else none) else none)))) fun v2=>if v2=true then(cn (some (false,0,0,0,[],0,([]:ZG),()))) else(some (.brk (a1,a2,a0,0,0,0,[],0)))) fun⟨a,c,b,_,_,_,_,_⟩=>if 0≤a then(if a<(List.length b.1.2.2.1:Int) then(if 0≤c then(if c<(List.length (nth bJ b.1.2.2.1 a).2.2.2.2.1:Int) then(some (true,(nth eo (nth bJ b.1.2.2.1 a).2.2.2.2.1 c).2.1)) else none) else none) else none) else none
def RI:SS:=⟨46,86,[tI 1,tI 2,tP 3 19,tP 6 22],[(19,bV dn),(22,.var lT (.cons vI (.cons vI (.cons vI (.cons (.val .str) (.cons vI (.cons .bA .nil)))))))],[]⟩
def RJ:SS:=⟨46,86,[tP 6 22,(7,vB)],[(22,bV lT)],[]⟩
def Yi:aW:=aF G [.cell 6 96,.tmp 7] 78 [.val dn,vI,vI] [] 86 RJ [] (.bH (u3 f78))
theorem Ng:hS Yi:=
 cO ⟨[hD 1 33 []],[(3,RI)],[],[],[],[]⟩ hz aJ Tryz.call78 Tryz.func78
def f203(a0:fE)(a1:gU)(a2:Int):Option (Bool×ju):=
 aG (U:=fE×gU×Int×Int×Int×Zg×Int) (Option.bind (α:=Bool) (if(decide (a1.2.2.1<(0:Int)))=true then(some true) else(some (decide (a2≤a1.2.2.1)))) fun v2=>if v2=true then(cn (some (false,0,0,0,[],0,([]:ZG),()))) else(some (.brk (a0,a1,0,0,0,[],0)))) fun⟨b,a,_,_,_,_,_⟩=>if 0≤a.2.2.1 then(if a.2.2.1<(List.length b.2.1.2.2.1:Int) then(Option.bind (f78 b.1 (nth aL b.2.1.2.2.1 a.2.2.1).2.2.1 a.2.2.2.1) fun⟨c,d⟩=>some (c,d)) else none) else none
def RL:SS:=⟨33,73,[tP 3 19,tP 4 20,tP 6 22],[(19,bV lU),(20,bV aS),(22,.var lT (.cons vI (.cons vI (.cons vI (.cons (.val .str) (.cons vI (.cons .bA .nil)))))))],[]⟩
def RN:SS:=⟨33,73,[tP 6 22,(7,vB)],[(22,bV lT)],[]⟩
def RQ:aW:=aF G [.cell 6 96,.tmp 7] 203 [.val lU,.val aS,vI] [] 73 RN [] (.bH (u3 f203))
theorem K2:hS RQ:=
 cO ⟨[hD 1 16 [],hA 3 0],[(3,RL)],[],[],[],[]⟩ (hq Ng hz) aJ Tryz.call203 Tryz.func203
def rK:Nat→Zv×Int×Int×fE→Zq:=aK fun acm ⟨k,j,i,l⟩=>if(decide (i<j))=true then(if 0≤i then(if i<(List.length k:Int) then(aG (U:=Int×Zv×Int×Int×fE×xI) (Option.bind (α:=Bool) (if(decide ((nth aL k i).2.2.1<(0:Int)))=true then(some true) else(some (decide ((List.length l.1.1.2.2.1:Int)≤(nth aL k i).2.2.1)))) fun v7=>if v7=true then(cn (cn (some false))) else(some (.brk (i,k,j,i,l,nth aL k i)))) fun⟨f,b,c,d,e,a⟩=>if(decide (a.2.2.2.1.2.2.1=(-1:Int)))=true then(acm (b,c,aZ (d+1),e)) else(Option.bind (f203 e a.2.2.2.1 f) fun⟨g,h⟩=>Option.bind (α:=Bool) (if(!g)=true then(some true) else(some (!decide (h.1=(3:Int))))) fun v9=>if v9=true then(cn (some false)) else(acm (b,c,aZ (d+1),e)))) else none) else none) else(some (.brk ()))
def f133(a0:fE):Zl:=
 aG (U:=fE) (Option.bind (α:=Bool) (if(decide ((List.length a0.2.1.2.2.1:Int)<(1:Int)))=true then(some true) else(some (decide ((3:Int)<(List.length a0.2.1.2.2.1:Int))))) fun v2=>if v2=true then(cn (some false)) else(some (.brk a0))) fun v1=>aG (U:=Unit) (rK (Int.toNat (List.length v1.2.1.2.2.1:Int)+1) (v1.2.1.2.2.1,(List.length v1.2.1.2.2.1:Int),0,v1)) fun _=>some true
def RR:SS:=⟨61,101,[tP 1 17],[(17,bV lU)],[]⟩
def RS:SS:=⟨61,101,[tP 1 17,tI 3,tP 4 20,(21,.val (.slice 96 aL)),tI 22,tI 23],[(17,bV lU),(20,bV aL)],[]⟩
def RU:SS:=⟨61,101,[],[],[]⟩
def RW:SS:=⟨61,101,[tP 1 17,(21,.val (.slice 96 aL)),tI 22,tI 23],[(17,bV lU)],[]⟩
def RX:SS:=⟨61,101,[(2,vB)],[],[]⟩
def RY:aW:=aF G [.tmp 2] 133 [.val lU] [] 101 RX [] (.bH (u1 f133))
theorem RZ:hS RY:=
 cO ⟨[hD 1 18 [],hD 6 40 [],hA 9 0,hD 10 59 []],[(3,RR),(8,RS),(13,RU)],[],[(4,⟨RW,fun u4=>Int.toNat u4.2.1+1⟩)],[],[]⟩ (hq K2 hz) aJ Tryz.call133 Tryz.func133
def f204(a0:gU):Zl:=
 Option.bind (α:=Bool) (if(decide (a0.2.2.1=(-1:Int)))=true then(if(decide ((0:Int)≤a0.2.2.2.2.1))=true then(some (decide (a0.2.2.2.2.1≤(1048576:Int)))) else(some false)) else(some false)) fun v1=>some v1
def R0:SS:=⟨16,56,[(2,vB)],[],[]⟩
def R3:aW:=aF G [.tmp 2] 204 [.val aS] [] 56 R0 [] (.bH (u1 f204))
theorem Nh:hS R3:=
 cO (hR [hD 1 2 []]) hz aJ Tryz.call204 Tryz.func204
def f205(a0:dx)(a1:ju)(a2:ju):Zl:=
 aG (U:=dx×ju×ju) (if(!decide (a1.1=a2.1))=true then(cn (some false)) else(if(decide (a1.1=(4:Int)))=true then(Option.bind (f97 a1.2.2.2.2.2.1 a2.2.2.2.2.2.1) fun y2=>cn (some y2)) else(Option.bind (α:=Bool) (if(!decide (a1.1=(1:Int)))=true then(some true) else(if(decide (a1.2.2.2.2.1=(-1:Int)))=true then(some true) else(some (decide (a2.2.2.2.2.1=(-1:Int)))))) fun v3=>if v3=true then(cn (some (decide (a1.2.2.2.2.1=a2.2.2.2.2.1)))) else(some (.brk (a0,a1,a2)))))) fun⟨b,a,c⟩=>if 0≤a.2.2.2.2.1 then(if a.2.2.2.2.1<(List.length b.1.2.1:Int) then(if 0≤c.2.2.2.2.1 then(if c.2.2.2.2.1<(List.length b.1.2.1:Int) then(some (decide ((nth aS b.1.2.1 a.2.2.2.2.1).2.2.2.1=(nth aS b.1.2.1 c.2.2.2.2.1).2.2.2.1))) else none) else none) else none) else none
def R4:SS:=⟨58,98,[tP 3 19,tP 4 20,tP 5 21],[(19,bV dn),(20,bV lT),(21,bV lT)],[]⟩
def R5:SS:=⟨58,98,[(6,vB)],[],[]⟩
def R6:aW:=aF G [.tmp 6] 205 [.val dn,.val lT,.val lT] [] 98 R5 [] (.bH (u3 f205))
theorem R7:hS R6:=
 cO ⟨[hA 4 0,hD 5 22 []],[(7,R4)],[],[],[],[]⟩ (hq Ou hz) aJ Tryz.call205 Tryz.func205
def mL:Nat→Int×Int×fE×px×Zr×List ju→Option (cW (fE×px×List ju) Bool):=aK fun acm ⟨d,c,f,h,e,g⟩=>if(decide (c<d))=true then(if 0≤c then(if c<(List.length e:Int) then(Option.bind (f203 f (nth aS e c) (List.length f.2.1.2.2.1:Int)) fun⟨a,b⟩=>Option.bind (α:=Bool) (if(!a)=true then(Option.bind (f204 (nth aS e c)) fun y7=>some (!y7)) else(some false)) fun v8=>if v8=true then(cn (some false)) else(if a=true then(if(List.length g+List.length [b])*72≤aE then(acm (d,aZ (c+1),f,h,e,g++[b])) else none) else(acm (d,aZ (c+1),f,h,e,g)))) else none) else none) else(some (.brk (f,h,g)))
def l7:Nat→Int×Int×px×List ju→Zq:=aK fun rec14 ⟨b,a,d,c⟩=>if(decide (a<b))=true then(if 0≤a then(if a<(List.length c:Int) then(Option.bind (α:=Bool) (if(decide ((nth lT c a).1=(1:Int)))=true then(some true) else(some (decide ((nth lT c a).1=(2:Int))))) fun v15=>Option.bind (α:=Bool) (if(decide (d.1=(2:Int)))=true then(some (!v15)) else(if(decide (d.1=(3:Int)))=true then(some (!v15)) else(some false))) fun v16=>if v16=true then(cn (some false)) else(rec14 (b,aZ (a+1),d,c))) else none) else none) else(some (.brk ()))
def f134(a0:fE)(a1:px):Zl:=
 aG (U:=fE×px) (Option.bind (α:=Bool) (if(decide (a1.1<(1:Int)))=true then(some true) else(some (decide ((4:Int)<a1.1)))) fun v2=>if v2=true then(cn (some false)) else(some (.brk (a0,a1)))) fun⟨b,a⟩=>aG (U:=fE×px×List ju) (mL (Int.toNat (List.length [a.2.1,a.2.2.1]:Int)+1) ((List.length [a.2.1,a.2.2.1]:Int),0,b,a,[a.2.1,a.2.2.1],([]:List ju))) fun⟨d,e,c⟩=>aG (U:=px×List ju) (Option.bind (α:=Bool) (if(decide ((List.length c:Int)=(0:Int)))=true then(some true) else(if(decide ((List.length c:Int)=(2:Int)))=true then(if(0:Int)<(List.length c:Int) then(if(1:Int)<(List.length c:Int) then(Option.bind (f205 d.1 (nth lT c (0:Int)) (nth lT c (1:Int))) fun y10=>some (!y10)) else none) else none) else(some false))) fun v11=>if v11=true then(cn (some false)) else(some (.brk (e,c)))) fun⟨g,f⟩=>aG (U:=Unit) (l7 (Int.toNat (List.length f:Int)+1) ((List.length f:Int),0,g,f)) fun _=>some true
def R8:SS:=⟨101,141,[tP 2 18,tP 3 19],[(18,bV lU),(19,bV aQ)],[]⟩
def R9:SS:=⟨101,141,[tP 2 18,tP 3 19,(5,.own 118)],[(18,bV lU),(19,bV aQ),(118,.row 96 72 lT)],[]⟩
def Sa:SS:=⟨101,141,[tP 3 19,(5,.own 118)],[(19,bV aQ),(118,.row 96 72 lT)],[]⟩
def Sb:SS:=⟨101,141,[],[],[]⟩
def Sd:SS:=⟨101,141,[tP 2 18,tP 3 19,(5,.own 117),(25,.own 41),tI 26,tI 27],[(18,bV lU),(19,bV aQ),(41,.row 251 56 aS),(117,.row 96 72 lT)],[]⟩
def Se:SS:=⟨101,141,[tP 3 19,(74,.own 118),tI 75,tI 76],[(19,bV aQ),(118,.row 96 72 lT)],[]⟩
def Sf:SS:=⟨101,141,[(4,vB)],[],[]⟩
def Sg:aW:=aF G [.tmp 4] 134 [.val lU,.val aQ] [] 141 Sf [] (.bH (u2 f134))
theorem Si:hS Sg:=
 cO ⟨[hD 1 20 [],hA 7 0,hD 8 47 [cA 1],hD 13 73 [cA 2],hD 18 12 [],hD 19 99 []],[(3,R8),(13,R9),(15,Sa),(22,Sb)],[],[(5,⟨Sd,fun u4=>Int.toNat u4.1+1⟩),(16,⟨Se,fun Gv=>Int.toNat Gv.1+1⟩)],[],[]⟩ (hq K2 (hq Nh (hq R7 hz))) aJ Tryz.call134 Tryz.func134
def f135(a0:fE)(a1:ju)(a2:gU):Zl:=
 Option.bind (f204 a2) fun y1=>if y1=true then(Option.bind (α:=Bool) (if(decide (a1.2.1≤a2.2.2.2.2.1))=true then(some (decide (a2.2.2.2.2.1≤a1.2.2.1))) else(some false)) fun v2=>some v2) else(Option.bind (f203 a0 a2 (List.length a0.2.1.2.2.1:Int)) fun⟨a,b⟩=>Option.bind (α:=Bool) (if a=true then(if(decide (b.1=a1.1))=true then(if(decide (b.2.2.2.2.1=a1.2.2.2.2.1))=true then(Option.bind (f97 b.2.2.2.2.2.1 a1.2.2.2.2.2.1) fun y4=>if y4=true then(if(decide (a1.2.1≤b.2.1))=true then(if(decide (b.2.1≤a1.2.2.1))=true then(if(decide (a1.2.1≤b.2.2.1))=true then(some (decide (b.2.2.1≤a1.2.2.1))) else(some false)) else(some false)) else(some false)) else(some false)) else(some false)) else(some false)) else(some false)) fun v5=>some v5)
def Sj:SS:=⟨83,123,[(6,vB)],[],[]⟩
def Sk:aW:=aF G [.tmp 6] 135 [.val lU,.val lT,.val aS] [] 123 Sj [] (.bH (u3 f135))
theorem Sl:hS Sk:=
 cO (hR [hA 1 0,hD 2 6 [],hA 3 1,hD 4 6 [cA 2]]) (hq Nh (hq K2 (hq Ou hz))) aJ Tryz.call135 Tryz.func135
def wx:Nat→Ze×Int×Int×Zn→Zq:=aK fun abG ⟨c,b,a,d⟩=>if(decide (a<b))=true then(if 0≤a then(if a<(List.length c:Int) then(if(bz (.int .i64) .bool (nth (.int .i64) c a) d)=true then(cn (some false)) else(if List.length d+1≤aE then(abG (c,b,aZ (a+1),bE (.int .i64) (nth (.int .i64) c a) true d)) else none)) else none) else none) else(some (.brk ()))
def f136(a0:Ze):Zl:=
 aG (U:=Unit) (wx (Int.toNat (List.length a0:Int)+1) (a0,(List.length a0:Int),0,([]:Zn))) fun _=>some true
def Sm:SS:=⟨21,61,[],[],[]⟩
def Sn:SS:=⟨21,61,[(3,.mp 24),(9,.val (.slice 8 (.int .i64))),tI 10,tI 11],[(24,.map (.int .i64) .bool)],[]⟩
def Sp:SS:=⟨21,61,[(2,vB)],[],[]⟩
def Sq:aW:=aF G [.tmp 2] 136 [.val (.slice 8 (.int .i64))] [] 61 Sp [] (.bH (u1 f136))
theorem Sr:hS Sq:=
 cO ⟨[],[(9,Sm)],[],[(3,⟨Sn,fun u2=>Int.toNat u2.2.1+1⟩)],[],[]⟩ hz aJ Tryz.call136 Tryz.func136
def pO:Nat→Zy×Int×Int×fE→Option (cW fE Bool):=aK fun rec6 ⟨c,b,a,d⟩=>if(decide (a<b))=true then(if 0≤a then(if a<(List.length c:Int) then(Option.bind (f134 d (nth aQ c a)) fun y7=>if(!y7)=true then(cn (some false)) else(rec6 (c,b,aZ (a+1),d))) else none) else none) else(some (.brk d))
def mM:Nat→Int×Zz×Int×Int×fE×Ze→Option (cW Ze Bool):=aK fun rec12 ⟨g,e,d,c,f,h⟩=>if(decide (c<d))=true then(if 0≤c then(if c<(List.length e:Int) then(Option.bind (f78 f.1 g (nth aY e c).2.1) fun⟨a,b⟩=>Option.bind (α:=Bool) (if(!a)=true then(some true) else(if(decide ((nth aY e c).2.1=(0:Int)))=true then(some true) else(Option.bind (f135 f b (nth aY e c).2.2.1) fun y14=>some (!y14)))) fun v15=>if v15=true then(cn (some false)) else(if(List.length h+List.length [(nth aY e c).2.1])*8≤aE then(rec12 (g,e,d,aZ (c+1),f,h++[(nth aY e c).2.1])) else none)) else none) else none) else(some (.brk h))
def f83(a0:fE):Zl:=
 aG (U:=fE) (Option.bind (α:=Bool) (Option.bind (f133 a0) fun y2=>if(!y2)=true then(some true) else(some (decide ((8:Int)<(List.length a0.2.1.2.2.2.1:Int))))) fun v3=>if v3=true then(cn (some false)) else(some (.brk a0))) fun v1=>aG (U:=fE) (pO (Int.toNat (List.length v1.2.1.2.2.2.1:Int)+1) (v1.2.1.2.2.2.1,(List.length v1.2.1.2.2.2.1:Int),0,v1)) fun v4=>aG (U:=Int×fE) (Option.bind (α:=Bool) (if(decide (v4.2.1.2.1<(0:Int)))=true then(some true) else(if(decide ((List.length v4.1.1.2.2.1:Int)≤v4.2.1.2.1))=true then(some true) else(if 0≤v4.2.1.2.1 then(if v4.2.1.2.1<(List.length v4.1.1.2.2.1:Int) then(some (!decide ((List.length v4.2.1.2.2.2.2.1:Int)=(aZ ((List.length (nth bJ v4.1.1.2.2.1 v4.2.1.2.1).2.2.2.2.1:Int) -(1:Int)))))) else none) else none))) fun v9=>if v9=true then(cn (some false)) else(some (.brk (v4.2.1.2.1,v4)))) fun⟨b,a⟩=>aG (U:=Ze) (mM (Int.toNat (List.length a.2.1.2.2.2.2.1:Int)+1) (b,a.2.1.2.2.2.2.1,(List.length a.2.1.2.2.2.2.1:Int),0,a,([]:Ze))) fun v10=>Option.bind (f136 v10) fun y16=>some y16
def Ni:SS:=⟨105,145,[tP 1 17],[(17,bV lU)],[]⟩
def Ss:SS:=⟨105,145,[tP 1 17,tI 5],[(17,bV lU)],[]⟩
def Su:SS:=⟨105,145,[(6,.own 122)],[(122,.row 3 8 (.int .i64))],[]⟩
def Sv:SS:=⟨105,145,[tP 1 17,(23,.val (.slice 120 aQ)),tI 24,tI 25],[(17,bV lU)],[]⟩
def Sw:SS:=⟨105,145,[tP 1 17,tI 5,(6,.own 121),(67,.val (.slice 80 aY)),tI 68,tI 69],[(17,bV lU),(121,.row 3 8 (.int .i64))],[]⟩
def Sx:SS:=⟨105,145,[(2,vB)],[],[]⟩
def Yj:aW:=aF G [.tmp 2] 83 [.val lU] [] 145 Sx [] (.bH (u1 f83))
theorem Yk:hS Yj:=
 cO ⟨[hD 1 20 [cA 0],hA 6 1,hD 10 64 [],hA 16 2,hD 17 96 [cA 3],hA 21 4],[(3,Ni),(9,Ni),(12,Ss),(21,Su)],[],[(4,⟨Sv,fun u5=>Int.toNat u5.2.1+1⟩),(14,⟨Sw,fun IW=>Int.toNat IW.2.2.1+1⟩)],[],[]⟩ (hq RZ (hq Si (hq Ng (hq Sl (hq Sr hz))))) aJ Tryz.call83 Tryz.func83
def Ai(a0:cQ)(a1:dx):Zl:=
 Option.bind (f83 (a1,a0,())) fun y1=>some y1
def Sy:SS:=⟨8,48,[(3,vB)],[],[]⟩
def K3:aW:=aF G [.tmp 3] 82 [.val bD,.bN dn] [] 48 Sy [] (.bH (u2 Ai))
theorem K4:hS K3:=
 cO (hR [hA 1 0]) (hq Yk hz) aJ Tryz.call82 Tryz.func82
def oF(a0:cQ)(a1:dx):Kp:=
 Option.bind (Ai a0 a1) fun y1=>some (!y1,a1)
def Sz:SS:=⟨8,48,[(3,vB)],[(0,.var (.aR .func) (.func 82 .nil (.cons (.bN dn) .nil)))],[]⟩
def Hr:aW:=aF G [.tmp 3] 141 [.val bD,pP 0] [(0,.var (.aR .func) (.func 82 .nil (.cons (.bN dn) .nil)))] 48 Sz [0] (.bH (u2 oF))
theorem Ht:hS Hr:=
 cO (hR [hA 1 0]) (hq K4 hz) aJ Tryz.call141 Tryz.func141
def Aj:Nat→Zm×Int×zQ→Option (cW dx zQ):=aK fun abG ⟨e,d,c,f⟩=>if(decide (c<d))=true then(if 0≤c then(if c<(List.length e:Int) then(Option.bind (oF (nth bD e c) f) fun⟨a,b⟩=>if a=true then(cn (some (c,b))) else(abG (e,d,aZ (c+1),b))) else none) else none) else(some (.brk f))
def wy(a0:Zm)(a1:dx):Option zQ:=
 aG (U:=dx) (Aj (Int.toNat (List.length a0:Int)+1) (a0,(List.length a0:Int),0,a1)) fun v1=>some ((-1:Int),v1)
def SC:SS:=⟨19,59,[],[(0,.var (.aR .func) (.func 82 .nil (.cons (.bN dn) .nil)))],[]⟩
def SD:SS:=⟨19,59,[(0,.val (.slice 96 bD)),(1,.func 141 .nil (.cons (pP 0) .nil)),tI 7,tI 8],[(0,.var (.aR .func) (.func 82 .nil (.cons (.bN dn) .nil)))],[]⟩
def SE:SS:=⟨19,59,[tI 4],[(0,.var (.aR .func) (.func 82 .nil (.cons (.bN dn) .nil)))],[]⟩
def Hu:aW:=aF G [.tmp 4] 161 [.val (.slice 96 bD),.func 141 .nil (.cons (pP 0) .nil)] [(0,.var (.aR .func) (.func 82 .nil (.cons (.bN dn) .nil)))] 59 SE [0] (.bH (u2 wy))
theorem Hv:hS Hu:=
 cO ⟨[hE 4 [cB 0 [(0,0)] []]],[(7,SC)],[],[(2,⟨SD,fun u2=>Int.toNat u2.2.1+1⟩)],[],[]⟩ (hq Ht hz) aJ Tryz.call161 Tryz.func161
def wz(a0:Zm)(a1:dx):Kp:=
 Option.bind (wy a0 a1) fun⟨a,b⟩=>some (decide ((0:Int)≤a),b)
def SF:SS:=⟨9,49,[(4,vB)],[(0,.var (.aR .func) (.func 82 .nil (.cons (.bN dn) .nil)))],[]⟩
def Hw:aW:=aF G [.tmp 4] 108 [.val (.slice 96 bD),.func 141 .nil (.cons (pP 0) .nil)] [(0,.var (.aR .func) (.func 82 .nil (.cons (.bN dn) .nil)))] 49 SF [0] (.bH (u2 wz))
theorem Hx:hS Hw:=
 cO (hR [hE 1 [cB 0 [(0,0)] []]]) (hq Hv hz) aJ Tryz.call108 Tryz.func108
def wC(a0:Zm)(a1:dx):Zl:=
 Option.bind (wz a0 a1) fun⟨a,_⟩=>some (!a)
def K5:aW:=aF G [.tmp 4] 88 [.val (.slice 96 bD),.func 82 .nil (.cons (.bN dn) .nil)] [] 49 EA [] (.bH (u2 wC))
theorem K6:hS K5:=
 cO (hR [hE 1 [cB 0 [(0,19)] []]]) (hq Hx hz) aJ Tryz.call88 Tryz.func88
def pQ:Nat→List oe×Int×Int×dx×nj→Option (cW nj Bool):=aK fun abG ⟨d,c,b,e,f⟩=>if(decide (b<c))=true then(if 0≤b then(if b<(List.length d:Int) then(Option.bind (f78 e (nth eF d b).2.2.1 (nth eF d b).2.2.2.1) fun⟨a,_⟩=>if(!a)=true then(cn (some false)) else(abG (d,c,aZ (b+1),e,f))) else none) else none) else(some (.brk f))
def f90(a0:dx)(a1:nj):Zl:=
 aG (U:=nj) (pQ (Int.toNat (List.length a1.2.1:Int)+1) (a1.2.1,(List.length a1.2.1:Int),0,a0,a1)) fun v1=>Option.bind (α:=Bool) (if(decide ((0:Int)≤v1.2.2.1))=true then(some (decide (v1.2.2.1≤(64:Int)))) else(some false)) fun v5=>some v5
def SG:SS:=⟨36,76,[tP 3 19],[(19,bV du)],[]⟩
def SH:SS:=⟨36,76,[tP 2 18,tP 3 19,(10,.val (.slice 48 eF)),tI 11,tI 12],[(18,bV dn),(19,bV du)],[]⟩
def SJ:SS:=⟨36,76,[(4,vB)],[],[]⟩
def Yl:aW:=aF G [.tmp 4] 90 [.val dn,.val du] [] 76 SJ [] (.bH (u2 f90))
theorem Ym:hS Yl:=
 cO ⟨[hA 4 0,hD 8 4 []],[(8,SG)],[],[(2,⟨SH,fun u2=>Int.toNat u2.2.1+1⟩)],[],[]⟩ (hq Ng hz) aJ Tryz.call90 Tryz.func90
def oG(a0:nj)(a1:dx):Kp:=
 Option.bind (f90 a1 a0) fun y1=>some (!y1,a1)
def SK:SS:=⟨8,48,[(3,vB)],[(0,.var (.aR .func) (.dc 90 dn))],[]⟩
def Hy:aW:=aF G [.tmp 3] 142 [.val du,pP 0] [(0,.var (.aR .func) (.dc 90 dn))] 48 SK [0] (.bH (u2 oG))
theorem Hz:hS Hy:=
 cO (hR [hA 1 0]) (hq Ym hz) aJ Tryz.call142 Tryz.func142
def Ak:Nat→ZA×Int×zQ→Option (cW dx zQ):=aK fun abG ⟨e,d,c,f⟩=>if(decide (c<d))=true then(if 0≤c then(if c<(List.length e:Int) then(Option.bind (oG (nth du e c) f) fun⟨a,b⟩=>if a=true then(cn (some (c,b))) else(abG (e,d,aZ (c+1),b))) else none) else none) else(some (.brk f))
def wD(a0:ZA)(a1:dx):Option zQ:=
 aG (U:=dx) (Ak (Int.toNat (List.length a0:Int)+1) (a0,(List.length a0:Int),0,a1)) fun v1=>some ((-1:Int),v1)
def SL:SS:=⟨19,59,[],[(0,.var (.aR .func) (.dc 90 dn))],[]⟩
def SN:SS:=⟨19,59,[(0,.val (.slice 48 du)),(1,.func 142 .nil (.cons (pP 0) .nil)),tI 7,tI 8],[(0,.var (.aR .func) (.dc 90 dn))],[]⟩
def SO:SS:=⟨19,59,[tI 4],[(0,.var (.aR .func) (.dc 90 dn))],[]⟩
def HA:aW:=aF G [.tmp 4] 202 [.val (.slice 48 du),.func 142 .nil (.cons (pP 0) .nil)] [(0,.var (.aR .func) (.dc 90 dn))] 59 SO [0] (.bH (u2 wD))
theorem HC:hS HA:=
 cO ⟨[hE 4 [cB 0 [(0,0)] []]],[(7,SL)],[],[(2,⟨SN,fun u2=>Int.toNat u2.2.1+1⟩)],[],[]⟩ (hq Hz hz) aJ Tryz.call202 Tryz.func202
def wE(a0:ZA)(a1:dx):Kp:=
 Option.bind (wD a0 a1) fun⟨a,b⟩=>some (decide ((0:Int)≤a),b)
def SP:SS:=⟨9,49,[(4,vB)],[(0,.var (.aR .func) (.dc 90 dn))],[]⟩
def HD:aW:=aF G [.tmp 4] 131 [.val (.slice 48 du),.func 142 .nil (.cons (pP 0) .nil)] [(0,.var (.aR .func) (.dc 90 dn))] 49 SP [0] (.bH (u2 wE))
theorem HE:hS HD:=
 cO (hR [hE 1 [cB 0 [(0,0)] []]]) (hq HC hz) aJ Tryz.call131 Tryz.func131
def wG(a0:ZA)(a1:dx):Zl:=
 Option.bind (wE a0 a1) fun⟨a,_⟩=>some (!a)
def K7:aW:=aF G [.tmp 4] 89 [.val (.slice 48 du),.dc 90 dn] [] 49 EA [] (.bH (u2 wG))
theorem K8:hS K7:=
 cO (hR [hE 1 [cB 0 [(0,19)] []]]) (hq HE hz) aJ Tryz.call89 Tryz.func89
def f57(a0:cY):ZM:=
 Option.bind (f81 (a0,())) fun y1=>if(!y1)=true then(some (2:Int)) else(Option.bind (α:=Bool) (Option.bind (wj a0.2.1 (a0,())) fun y2=>if(!y2)=true then(some true) else(Option.bind (wv a0.2.2.1 (a0,())) fun y3=>if(!y3)=true then(some true) else(Option.bind (wC a0.2.2.2.1 (a0,())) fun y4=>if(!y4)=true then(some true) else(Option.bind (wG a0.2.2.2.2.2.1 (a0,())) fun y5=>some (!y5))))) fun v6=>if v6=true then(some (120:Int)) else(some (0:Int)))
def SQ:SS:=⟨40,80,[tI 2],[],[]⟩
def Yn:aW:=aF G [.tmp 2] 57 [.val gS] [] 80 SQ [] (.bH (u1 f57))
theorem Xn:hS Yn:=
 cO (hR [hA 2 0,hD 5 39 [cA 1,cA 2,cA 3,cA 4]]) (hq Yd (hq KZ (hq K1 (hq K6 (hq K8 hz))))) aJ Tryz.call57 Tryz.func57
def f208(a0:Int)(a1:Int):Zl:=
 if 0≤a1 then(some (decide ((fC .and .u64 (Int.fdiv a0 (2^(min (Int.toNat a1) 64))) (1:Int))=(1:Int)))) else none
def SR:SS:=⟨10,50,[(4,vB)],[],[]⟩
def SU:aW:=aF G [.tmp 4] 208 [.val (.int .u64),vI] [] 50 SR [] (.bH (u2 f208))
theorem SV:hS SU:=
 cO (hR []) hz aJ Tryz.call208 Tryz.func208
def mN:Nat→Int×Int×Ze×Int×Int×jj→Option (cW (Int×Int×jj) Bool):=aK fun abG ⟨d,e,c,b,a,f⟩=>if(decide (a<b))=true then(if 0≤a then(if a<(List.length c:Int) then(Option.bind (α:=Bool) (if(decide ((nth (.int .i64) c a)<(0:Int)))=true then(some true) else(if(decide (d≤(nth (.int .i64) c a)))=true then(some true) else(Option.bind (f208 e (nth (.int .i64) c a)) fun y4=>some y4))) fun v5=>if v5=true then(cn (some false)) else(if 0≤(nth (.int .i64) c a) then(abG (d,fC .or .u64 e (IntKind.u64.wrap ((1:Int)*2^(min (Int.toNat (nth (.int .i64) c a)) 64))),c,b,aZ (a+1),f)) else none)) else none) else none) else(some (.brk (d,e,f)))
def f143(a0:jj)(a1:Int):Zl:=
 aG (U:=Int×Int×jj) (mN (Int.toNat (List.length a0.2.2.1:Int)+1) (a1,0,a0.2.2.1,(List.length a0.2.2.1:Int),0,a0)) fun⟨c,a,b⟩=>Option.bind (α:=Bool) (if(!decide (a=(0:Int)))=true then(if(decide ((0:Int)≤b.2.2.2.1))=true then(if(decide (b.2.2.2.1<c))=true then(Option.bind (f208 a b.2.2.2.1) fun y6=>some (!y6)) else(some false)) else(some false)) else(some false)) fun v7=>some v7
def SX:SS:=⟨52,92,[tI 1,tP 2 18,(5,.val (.int .u64))],[(18,bV eE)],[]⟩
def SY:SS:=⟨52,92,[tI 1,tP 2 18,(5,.val (.int .u64)),(9,.val (.slice 8 (.int .i64))),tI 10,tI 11],[(18,bV eE)],[]⟩
def SZ:SS:=⟨52,92,[(4,vB)],[],[]⟩
def S0:aW:=aF G [.tmp 4] 143 [.val eE,vI] [] 92 SZ [] (.bH (u2 f143))
theorem S1:hS S0:=
 cO ⟨[hD 5 26 [cA 0],hD 9 4 [cA 0]],[(9,SX)],[],[(3,⟨SY,fun u2=>Int.toNat u2.2.2.2.1+1⟩)],[],[]⟩ (hq SV hz) aJ Tryz.call143 Tryz.func143
def sQ:Nat→List jj×Int×Int×ll→Option (cW Unit Int):=aK fun acm ⟨c,b,a,d⟩=>if(decide (a<b))=true then(if 0≤a then(if a<(List.length c:Int) then(Option.bind (f143 (nth eE c a) (List.length d.2.2.2.2.1:Int)) fun y6=>if(!y6)=true then(cn (some (130:Int))) else(acm (c,b,aZ (a+1),d))) else none) else none) else(some (.brk ()))
def f91(a0:ll):ZM:=
 aG (U:=ll) (Option.bind (α:=Bool) (if(decide ((List.length a0.2.2.2.2.1:Int)<(1:Int)))=true then(some true) else(if(decide ((12:Int)<(List.length a0.2.2.2.2.1:Int)))=true then(some true) else(some (decide ((12:Int)<(List.length a0.2.2.2.2.2.1:Int)))))) fun v2=>if v2=true then(cn (some (130:Int))) else(some (.brk a0))) fun v1=>aG (U:=Unit) (sQ (Int.toNat (List.length v1.2.2.2.2.2.1:Int)+1) (v1.2.2.2.2.2.1,(List.length v1.2.2.2.2.2.1:Int),0,v1)) fun _=>some (0:Int)
def S2:SS:=⟨35,75,[tP 1 17],[(17,bV bJ)],[]⟩
def S3:SS:=⟨35,75,[],[],[]⟩
def S4:SS:=⟨35,75,[tP 1 17,(22,.val (.slice 72 eE)),tI 23,tI 24],[(17,bV bJ)],[]⟩
def S5:SS:=⟨35,75,[tI 2],[],[]⟩
def Yo:aW:=aF G [.tmp 2] 91 [.val bJ] [] 75 S5 [] (.bH (u1 f91))
theorem Yp:hS Yo:=
 cO ⟨[hD 1 20 [],hA 6 0],[(3,S2),(9,S3)],[],[(4,⟨S4,fun u4=>Int.toNat u4.2.1+1⟩)],[],[]⟩ (hq S1 hz) aJ Tryz.call91 Tryz.func91
def Al:Nat→ZB×ZY→Option (cW Unit Int):=aK fun abG ⟨c,b,a⟩=>if(decide (a<b))=true then(if 0≤a then(if a<(List.length c:Int) then(Option.bind (f91 (nth bJ c a)) fun y4=>if(!decide (y4=(0:Int)))=true then(cn (some y4)) else(abG (c,b,aZ (a+1)))) else none) else none) else(some (.brk ()))
def f58(a0:cY):ZM:=
 aG (U:=Unit) (Al (Int.toNat (List.length a0.2.2.1:Int)+1) (a0.2.2.1,(List.length a0.2.2.1:Int),0)) fun _=>some (0:Int)
def S6:SS:=⟨19,59,[],[],[]⟩
def S7:SS:=⟨19,59,[(7,.val (.slice 96 bJ)),tI 8,tI 9],[],[]⟩
def S8:SS:=⟨19,59,[tI 2],[],[]⟩
def Yq:aW:=aF G [.tmp 2] 58 [.val gS] [] 59 S8 [] (.bH (u1 f58))
theorem Yr:hS Yq:=
 cO ⟨[hA 4 0],[(8,S6)],[],[(2,⟨S7,fun u2=>Int.toNat u2.2.1+1⟩)],[],[]⟩ (hq Yp hz) aJ Tryz.call58 Tryz.func58
def oH(a0:Int)(a1:Int)(a2:ZN):Option (Bool×ZN):=
 Option.bind (α:=Bool) (if(decide ((0:Int)≤a1))=true then(some (decide (a1<a0))) else(some false)) fun v1=>some (v1,a2)
def S9:SS:=⟨13,53,[(4,vB)],[(0,.pmap (.int .i64) (.map (.int .i64) .bool) 0)],[]⟩
def HF:aW:=aF G [.tmp 4] 146 [.cons vI (.cons (.mp 0) .nil),vI] [(0,.pmap (.int .i64) (.map (.int .i64) .bool) 0)] 53 S9 [0] (.bH (u3 oH))
theorem HG:hS HF:=
 cO (hR [hD 1 4 []]) hz aJ Tryz.call146 Tryz.func146
def mO:Nat→Zm×Int×Int×Zv×Int×Int×Int×cQ×ZN→Option (cW (Zm×Int×Int×Int×ZN) (cW (Int×ZN) (Int×dW))):=aK fun rec8 ⟨i,j,k,e,d,c,f,h,g⟩=>if(decide (c<d))=true then(if 0≤c then(if c<(List.length e:Int) then(Option.bind (oH f (nth aL e c).2.2.1 g) fun⟨a,b⟩=>if(!a)=true then(cn (cn (some (140,0,(none:Option ZN),())))) else(if cJ (.int .i64) h.2.1 b=true then(if aX (.int .i64) h.2.1 h.2.1=true then(if List.length (bU (bz (.int .i64) (.map (.int .i64) .bool) h.2.1 b))+1≤aE then(rec8 (i,j,k,e,d,aZ (c+1),f,h,bE (.int .i64) h.2.1 (some (bE (.int .i64) (nth aL e c).2.2.1 true (bU (bz (.int .i64) (.map (.int .i64) .bool) h.2.1 b)))) b)) else none) else none) else none)) else none) else none) else(some (.brk (i,j,k,f,g)))
def pS:Nat→Zm×Int×Int×Int×ZN→Option (cW (Int×ZN) (Int×dW)):=aK fun abG ⟨p,o,n,q,r⟩=>if(decide (n<o))=true then(aG (U:=Zm×Int×Int×Int×ZN) (if 0≤n then(if n<(List.length p:Int) then(Option.bind (oH q (nth bD p n).2.1 r) fun⟨a,b⟩=>if(!a)=true then(cn (cn (some (140,0,(none:Option ZN),())))) else(aG (U:=Zm×Int×Int×Int×cQ×ZN) (if(!(cJ (.int .i64) (nth bD p n).2.1 b))=true then(if cJ (.int .i64) (nth bD p n).2.1 b=false then(if aX (.int .i64) (nth bD p n).2.1 (nth bD p n).2.1=true then(if List.length b+1≤aE then(some (.brk (p,o,n,q,nth bD p n,bE (.int .i64) (nth bD p n).2.1 (some ([]:Zn)) (bE (.int .i64) (nth bD p n).2.1 (Ty.aD (.map (.int .i64) .bool)) b)))) else none) else none) else none) else(some (.brk (p,o,n,q,nth bD p n,b)))) fun⟨d,e,f,g,c,h⟩=>mO (Int.toNat (List.length c.2.2.1:Int)+1) (d,e,f,c.2.2.1,(List.length c.2.2.1:Int),0,g,c,h))) else none) else none) fun⟨i,j,k,l,m⟩=>abG (i,j,aZ (k+1),l,m)) else(some (.brk (q,r)))
def f95(a0:cY):Option (Int×dW):=
 aG (U:=Int×ZN) (pS (Int.toNat (List.length a0.2.2.2.1:Int)+1) (a0.2.2.2.1,(List.length a0.2.2.2.1:Int),0,(List.length a0.2.2.1:Int),([]:ZN))) fun⟨a,b⟩=>some (0,a,some b,())
def Ta:SS:=⟨60,100,[tP 2 18,tP 5 21,(14,.val (.slice 96 bD)),tI 15,tI 16],[(18,.var lV (.cons vI (.cons (.mp 27) .nil))),(21,bV bD),(27,.pmap (.int .i64) (.map (.int .i64) .bool) 0)],[]⟩
def Nj:SS:=⟨60,100,[tP 2 18,(14,.val (.slice 96 bD)),tI 15,tI 16],[(18,.var lV (.cons vI (.cons (.mp 27) .nil))),(27,.pmap (.int .i64) (.map (.int .i64) .bool) 0)],[]⟩
def Tb:SS:=⟨60,100,[tP 2 18],[(18,.var lV (.cons vI (.cons (.mp 27) .nil))),(27,.pmap (.int .i64) (.map (.int .i64) .bool) 0)],[]⟩
def Tc:SS:=⟨60,100,[tP 2 18,tP 5 21,(14,.val (.slice 96 bD)),tI 15,tI 16,(38,.val (.slice 96 aL)),tI 39,tI 40],[(18,.var lV (.cons vI (.cons (.mp 27) .nil))),(21,bV bD),(27,.pmap (.int .i64) (.map (.int .i64) .bool) 0)],[]⟩
def Td:SS:=⟨60,100,[tP 2 18,tI 3],[(18,bV lV)],[]⟩
def Ys:aW:=aF G [.cell 2 199,.tmp 3] 95 [.val gS] [] 100 Td [] (.bH (u1 f95))
theorem Yt:hS Ys:=
 cO ⟨[(2,⟨[.Fz 27 0],[],[],none,[],[],[]⟩),hE 5 [cB 0 [(0,27)] []],(8,⟨[],[],[],none,[],[.map 0 27 0 (.c 5 [.cD 1])],[.lM 27]⟩),hE 12 [cB 0 [(0,27)] []],(14,⟨[],[],[],none,[],[.map 1 27 76 (.c 5 [.cD 1])],[.lM 27]⟩),(17,⟨[.D1 27],[],[],none,[],[],[]⟩)],[(9,Ta),(16,Nj),(17,Tb)],[],[(3,⟨Nj,fun u2=>Int.toNat u2.2.1+1⟩),(10,⟨Tc,fun u7=>Int.toNat u7.2.2.2.2.1+1⟩)],[],[]⟩ (hq HG hz) aJ Tryz.call95 Tryz.func95
def Am(a0:dW):Option dW:=
 some a0
def Te:SS:=⟨4,44,[(2,.func 147 .nil (.cons (pP 17) .nil))],[(17,bV lV)],[]⟩
def K9:aW:=aF G [.tmp 2] 96 [.val lV] [] 44 Te [17] (.bH (u1 Am))
theorem La:hS K9:=
 cO (hR []) hz aJ Tryz.call96 Tryz.func96
end Go.Proofs.YtgdcjlldafmomaaGreat
