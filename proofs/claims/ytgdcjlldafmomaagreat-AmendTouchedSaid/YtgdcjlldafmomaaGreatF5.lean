/- part -/
import Derived.Test.YtgdcjlldafmomaaGreatF4
noncomputable section
namespace Go.Proofs.YtgdcjlldafmomaaGreat
open Go.Ax
def f102(a0:dq)(a1:dq):Zl:=
 Option.bind (α:=Bool) (if(decide (a0.1=a1.1))=true then(if(decide (a0.2.1=a1.2.1))=true then(Option.bind (f156 a0.2.2.1 a1.2.2.1) fun y1=>if y1=true then(Option.bind (f157 a0.2.2.2.1 a1.2.2.2.1) fun y2=>if y2=true then(Option.bind (f158 a0.2.2.2.2.1 a1.2.2.2.2.1) fun y3=>some y3) else(some false)) else(some false)) else(some false)) else(some false)) fun v4=>some v4
def TU:SS:=⟨38,78,[(4,vB)],[],[]⟩
def TV:aW:=aF G [.tmp 4] 102 [.val bz,.val bz] [] 78 TU [] (.bE (u2 f102))
theorem TW:hS TV:=
 cO (hR [hD 1 4 [cA 0,cA 1,cA 2]]) (hq SP (hq SU (hq SY hz))) aI Tryz.call102 Tryz.func102
def BG:Nat→Zn×Zn×ZX→Zt:=aK fun acK ⟨d,c,b,a⟩=>if(decide (a<b))=true then(if 0≤a then(if a<(List.length c:Int) then(if 0≤a then(if a<(List.length d:Int) then(Option.bind (f102 (nth bz c a) (nth bz d a)) fun y4=>if(!y4)=true then(bZ (some false)) else(acK (d,c,b,aZ (a+1)))) else none) else none) else none) else none) else(some (.brk ()))
def xB(a0:Zn)(a1:Zn):Zl:=
 if(!decide ((List.length a0:Int)=(List.length a1:Int)))=true then(some false) else(aG (U:=Unit) (BG (Int.toNat (List.length a0:Int)+1) (a1,a0,(List.length a0:Int),0)) fun _=>some true)
def TX:SS:=⟨32,72,[(1,.val (.slice 96 bz)),(2,.func 102 .nil .nil),(15,.val (.slice 96 bz)),tI 16,tI 17],[],[]⟩
def Js:aW:=aF G [.tmp 6] 101 [.val (.slice 96 bz),.val (.slice 96 bz),.func 102 .nil .nil] [] 72 Ik [] (.bE (u2 xB))
theorem Jt:hS Js:=
 cO ⟨[hA 7 0],[(10,Ij)],[],[(4,⟨TX,fun u2=>Int.toNat u2.2.2.1+1⟩)],[],[]⟩ (hq TW hz) aI Tryz.call101 Tryz.func101
def Ju:Nat→Zq×Zq×ZX→Zt:=aK fun acK ⟨c,d,b,a⟩=>if(decide (a<b))=true then(if 0≤a then(if a<(List.length c:Int) then(if 0≤a then(if a<(List.length d:Int) then(if(!aY aS (nth aS c a) (nth aS d a))=true then(bZ (some false)) else(acK (c,d,b,aZ (a+1)))) else none) else none) else none) else none) else(some (.brk ()))
def f159(a0:Zq)(a1:Zq):Zl:=
 if(!decide ((List.length a0:Int)=(List.length a1:Int)))=true then(some false) else(aG (U:=Unit) (Ju (Int.toNat (List.length a0:Int)+1) (a0,a1,(List.length a0:Int),0)) fun _=>some true)
def TY:aW:=aF G [.tmp 4] 159 [.val (.slice 56 aS),.val (.slice 56 aS)] [] 66 yV [] (.bE (u2 f159))
theorem TZ:hS TY:=
 cO ⟨[],[(9,yU)],[],[(4,⟨Od,fun u2=>Int.toNat u2.2.2.1+1⟩)],[],[]⟩ hz aI Tryz.call159 Tryz.func159
def f104(a0:pZ)(a1:pZ):Zl:=
 Option.bind (α:=Bool) (if(decide (a0.1=a1.1))=true then(if(decide (a0.2.1=a1.2.1))=true then(if(decide (a0.2.2.1=a1.2.2.1))=true then(if(decide (a0.2.2.2.1=a1.2.2.2.1))=true then(Option.bind (f159 a0.2.2.2.2.1 a1.2.2.2.2.1) fun y1=>some y1) else(some false)) else(some false)) else(some false)) else(some false)) fun v2=>some v2
def T0:SS:=⟨38,78,[(4,vB)],[],[]⟩
def T1:aW:=aF G [.tmp 4] 104 [.val fa,.val fa] [] 78 T0 [] (.bE (u2 f104))
theorem T3:hS T1:=
 cO (hR [hD 1 4 [cA 0]]) (hq TZ hz) aI Tryz.call104 Tryz.func104
def BH:Nat→ZC×ZC×ZX→Zt:=aK fun acK ⟨d,c,b,a⟩=>if(decide (a<b))=true then(if 0≤a then(if a<(List.length c:Int) then(if 0≤a then(if a<(List.length d:Int) then(Option.bind (f104 (nth fa c a) (nth fa d a)) fun y4=>if(!y4)=true then(bZ (some false)) else(acK (d,c,b,aZ (a+1)))) else none) else none) else none) else none) else(some (.brk ()))
def xC(a0:ZC)(a1:ZC):Zl:=
 if(!decide ((List.length a0:Int)=(List.length a1:Int)))=true then(some false) else(aG (U:=Unit) (BH (Int.toNat (List.length a0:Int)+1) (a1,a0,(List.length a0:Int),0)) fun _=>some true)
def T4:SS:=⟨32,72,[(1,.val (.slice 72 fa)),(2,.func 104 .nil .nil),(15,.val (.slice 72 fa)),tI 16,tI 17],[],[]⟩
def Jv:aW:=aF G [.tmp 6] 103 [.val (.slice 72 fa),.val (.slice 72 fa),.func 104 .nil .nil] [] 72 Ik [] (.bE (u2 xC))
theorem Jw:hS Jv:=
 cO ⟨[hA 7 0],[(10,Ij)],[],[(4,⟨T4,fun u2=>Int.toNat u2.2.2.1+1⟩)],[],[]⟩ (hq T3 hz) aI Tryz.call103 Tryz.func103
def Jx:Nat→List nL×List nL×ZX→Zt:=aK fun acK ⟨c,d,b,a⟩=>if(decide (a<b))=true then(if 0≤a then(if a<(List.length c:Int) then(if 0≤a then(if a<(List.length d:Int) then(if(!aY eA (nth eA c a) (nth eA d a))=true then(bZ (some false)) else(acK (c,d,b,aZ (a+1)))) else none) else none) else none) else none) else(some (.brk ()))
def f160(a0:List nL)(a1:List nL):Zl:=
 if(!decide ((List.length a0:Int)=(List.length a1:Int)))=true then(some false) else(aG (U:=Unit) (Jx (Int.toNat (List.length a0:Int)+1) (a0,a1,(List.length a0:Int),0)) fun _=>some true)
def T5:SS:=⟨26,66,[(0,.val (.slice 48 eA)),(1,.val (.slice 48 eA)),tI 12,tI 13],[],[]⟩
def T6:aW:=aF G [.tmp 4] 160 [.val (.slice 48 eA),.val (.slice 48 eA)] [] 66 yV [] (.bE (u2 f160))
theorem T8:hS T6:=
 cO ⟨[],[(9,yU)],[],[(4,⟨T5,fun u2=>Int.toNat u2.2.2.1+1⟩)],[],[]⟩ hz aI Tryz.call160 Tryz.func160
def f106(a0:mU)(a1:mU):Zl:=
 Option.bind (α:=Bool) (if(decide (a0.1=a1.1))=true then(if(decide (a0.2.2.1=a1.2.2.1))=true then(Option.bind (f160 a0.2.1 a1.2.1) fun y1=>some y1) else(some false)) else(some false)) fun v2=>some v2
def T9:SS:=⟨24,64,[(4,vB)],[],[]⟩
def Ua:aW:=aF G [.tmp 4] 106 [.val dk,.val dk] [] 64 T9 [] (.bE (u2 f106))
theorem Ub:hS Ua:=
 cO (hR [hD 1 4 [cA 0]]) (hq T8 hz) aI Tryz.call106 Tryz.func106
def BI:Nat→Zz×Zz×ZX→Zt:=aK fun acK ⟨d,c,b,a⟩=>if(decide (a<b))=true then(if 0≤a then(if a<(List.length c:Int) then(if 0≤a then(if a<(List.length d:Int) then(Option.bind (f106 (nth dk c a) (nth dk d a)) fun y4=>if(!y4)=true then(bZ (some false)) else(acK (d,c,b,aZ (a+1)))) else none) else none) else none) else none) else(some (.brk ()))
def xD(a0:Zz)(a1:Zz):Zl:=
 if(!decide ((List.length a0:Int)=(List.length a1:Int)))=true then(some false) else(aG (U:=Unit) (BI (Int.toNat (List.length a0:Int)+1) (a1,a0,(List.length a0:Int),0)) fun _=>some true)
def Uc:SS:=⟨32,72,[(1,.val (.slice 48 dk)),(2,.func 106 .nil .nil),(15,.val (.slice 48 dk)),tI 16,tI 17],[],[]⟩
def Jy:aW:=aF G [.tmp 6] 105 [.val (.slice 48 dk),.val (.slice 48 dk),.func 106 .nil .nil] [] 72 Ik [] (.bE (u2 xD))
theorem Jz:hS Jy:=
 cO ⟨[hA 7 0],[(10,Ij)],[],[(4,⟨Uc,fun u2=>Int.toNat u2.2.2.1+1⟩)],[],[]⟩ (hq Ub hz) aI Tryz.call105 Tryz.func105
def f62(a0:cz)(a1:cz):Zl:=
 Option.bind (α:=Bool) (Option.bind (f97 a0.1 a1.1) fun y1=>if y1=true then(Option.bind (f98 a0.2.1 a1.2.1) fun y2=>if y2=true then(Option.bind (AW a0.2.2.1 a1.2.2.1) fun y3=>if y3=true then(Option.bind (xB a0.2.2.2.1 a1.2.2.2.1) fun y4=>if y4=true then(Option.bind (xC a0.2.2.2.2.1 a1.2.2.2.2.1) fun y5=>if y5=true then(Option.bind (xD a0.2.2.2.2.2.1 a1.2.2.2.2.2.1) fun y6=>some y6) else(some false)) else(some false)) else(some false)) else(some false)) else(some false)) fun v7=>some v7
def Ud:SS:=⟨45,85,[(4,vB)],[],[]⟩
def c62:aW:=aF G [.tmp 4] 62 [.val gE,.val gE] [] 85 Ud [] (.bE (u2 f62))
theorem Yw:hS c62:=
 cO (hR [hD 1 4 [cA 0,cA 1,cA 2,cA 3,cA 4,cA 5]]) (hq Oc (hq x98 (hq LD (hq Jt (hq Jw (hq Jz hz)))))) aI Tryz.call62 Tryz.func62
def f56(a0:cz):ZM:=
 Option.bind (f80 a0) fun⟨b,a⟩=>if(!decide (a=(0:Int)))=true then(some a) else(Option.bind (f62 b a0) fun y2=>if(!y2)=true then(some (160:Int)) else(some (0:Int)))
def Ue:SS:=⟨16,56,[tI 2],[],[]⟩
def c56:aW:=aF G [.tmp 2] 56 [.val gE] [] 56 Ue [] (.bE (u1 f56))
theorem x56:hS c56:=
 cO (hR [hA 1 0,hA 4 1]) (hq x80 (hq Yw hz)) aI Tryz.call56 Tryz.func56
def f132(a0:mU):Zl:=
 some (decide ((64:Int)<(List.length a0.2.1:Int)))
def Uf:SS:=⟨7,47,[(2,vB)],[],[]⟩
def Ug:aW:=aF G [.tmp 2] 132 [.val dk] [] 47 Uf [] (.bE (u1 f132))
theorem Uh:hS Ug:=
 cO (hR []) hz aI Tryz.call132 Tryz.func132
def BJ:Nat→Zz×ZX→Option (cQ Unit Int):=aK fun acK ⟨c,b,a⟩=>if(decide (a<b))=true then(if 0≤a then(if a<(List.length c:Int) then(Option.bind (f132 (nth dk c a)) fun y4=>if y4=true then(bZ (some a)) else(acK (c,b,aZ (a+1)))) else none) else none) else(some (.brk ()))
def xE(a0:Zz):ZM:=
 aG (U:=Unit) (BJ (Int.toNat (List.length a0:Int)+1) (a0,(List.length a0:Int),0)) fun _=>some (-1:Int)
def Ui:SS:=⟨19,59,[],[],[]⟩
def Uj:SS:=⟨19,59,[(0,.val (.slice 48 dk)),(1,.func 132 .nil .nil),tI 7,tI 8],[],[]⟩
def Uk:SS:=⟨19,59,[tI 4],[],[]⟩
def JA:aW:=aF G [.tmp 4] 202 [.val (.slice 48 dk),.func 132 .nil .nil] [] 59 Uk [] (.bE (u1 xE))
theorem JB:hS JA:=
 cO ⟨[hA 4 0],[(7,Ui)],[],[(2,⟨Uj,fun u2=>Int.toNat u2.2.1+1⟩)],[],[]⟩ (hq Uh hz) aI Tryz.call202 Tryz.func202
def sh(a0:Zz):Zl:=
 Option.bind (xE a0) fun y1=>some (decide ((0:Int)≤y1))
def Gz:SS:=⟨9,49,[(4,vB)],[],[]⟩
def JC:aW:=aF G [.tmp 4] 131 [.val (.slice 48 dk),.func 132 .nil .nil] [] 49 Gz [] (.bE (u1 sh))
theorem JD:hS JC:=
 cO (hR [hA 1 0]) (hq JB hz) aI Tryz.call131 Tryz.func131
def f81(a0:dt):Zl:=
 Option.bind (α:=Bool) (if(decide ((8:Int)<(List.length a0.1.1:Int)))=true then(some true) else(if(decide ((64:Int)<(List.length a0.1.2.1:Int)))=true then(some true) else(if(decide ((16:Int)<(List.length a0.1.2.2.1:Int)))=true then(some true) else(if(decide ((16:Int)<(List.length a0.1.2.2.2.1:Int)))=true then(some true) else(if(decide ((16:Int)<(List.length a0.1.2.2.2.2.1:Int)))=true then(some true) else(some (decide ((8:Int)<(List.length a0.1.2.2.2.2.2.1:Int))))))))) fun v1=>if v1=true then(some false) else(Option.bind (sh a0.1.2.2.2.2.2.1) fun y2=>some (!y2))
def Ul:SS:=⟨48,88,[(2,vB)],[],[]⟩
def c81:aW:=aF G [.tmp 2] 81 [.val de] [] 88 Ul [] (.bE (u1 f81))
theorem x81:hS c81:=
 cO (hR [hD 1 42 [],hA 3 0]) (hq JD hz) aI Tryz.call81 Tryz.func81
def f85(a0:dt)(a1:gO):Zl:=
 Option.bind (α:=Bool) (if(decide ((1:Int)≤a1.2.2.2.2.1))=true then(if(decide (a1.2.2.2.2.1≤(1099511627776:Int)))=true then(if(decide ((0:Int)≤a1.2.2.2.1))=true then(if(decide (a1.2.2.2.1<(List.length a0.1.2.1:Int)))=true then(if 0≤a1.2.2.2.1 then(if a1.2.2.2.1<(List.length a0.1.2.1:Int) then(some (decide ((nth aS a0.1.2.1 a1.2.2.2.1).2.2.2.2.1=(1:Int)))) else none) else none) else(some false)) else(some false)) else(some false)) else(some false)) fun v1=>some v1
def Um:SS:=⟨38,78,[(4,vB)],[],[]⟩
def c85:aW:=aF G [.tmp 4] 85 [.val de,.val aS] [] 78 Um [] (.bE (u2 f85))
theorem Yx:hS c85:=
 cO (hR [hD 1 4 []]) hz aI Tryz.call85 Tryz.func85
def oX(a0:gO)(a1:dt):Ld:=
 Option.bind (f85 a1 a0) fun y1=>some (!y1,a1)
def Un:SS:=⟨8,48,[(3,vB)],[(0,.var (.aR .func) (.cV 85 de))],[]⟩
def JE:aW:=aF G [.tmp 3] 138 [.val aS,pP 0] [(0,.var (.aR .func) (.cV 85 de))] 48 Un [0] (.bE (u2 oX))
theorem JF:hS JE:=
 cO (hR [hA 1 0]) (hq Yx hz) aI Tryz.call138 Tryz.func138
def BK:Nat→Zq×Int×Ap→Option (cQ dt Ap):=aK fun acK ⟨e,d,c,f⟩=>if(decide (c<d))=true then(if 0≤c then(if c<(List.length e:Int) then(Option.bind (oX (nth aS e c) f) fun⟨a,b⟩=>if a=true then(bZ (some (c,b))) else(acK (e,d,aZ (c+1),b))) else none) else none) else(some (.brk f))
def xF(a0:Zq)(a1:dt):Option Ap:=
 aG (U:=dt) (BK (Int.toNat (List.length a0:Int)+1) (a0,(List.length a0:Int),0,a1)) fun v1=>some ((-1:Int),v1)
def Up:SS:=⟨19,59,[],[(0,.var (.aR .func) (.cV 85 de))],[]⟩
def Uq:SS:=⟨19,59,[(0,.val (.slice 56 aS)),(1,.func 138 .nil (.cons (pP 0) .nil)),tI 7,tI 8],[(0,.var (.aR .func) (.cV 85 de))],[]⟩
def Ur:SS:=⟨19,59,[tI 4],[(0,.var (.aR .func) (.cV 85 de))],[]⟩
def JG:aW:=aF G [.tmp 4] 206 [.val (.slice 56 aS),.func 138 .nil (.cons (pP 0) .nil)] [(0,.var (.aR .func) (.cV 85 de))] 59 Ur [0] (.bE (u2 xF))
theorem JH:hS JG:=
 cO ⟨[hE 4 [cB 0 [(0,0)] []]],[(7,Up)],[],[(2,⟨Uq,fun u2=>Int.toNat u2.2.1+1⟩)],[],[]⟩ (hq JF hz) aI Tryz.call206 Tryz.func206
def xG(a0:Zq)(a1:dt):Ld:=
 Option.bind (xF a0 a1) fun⟨a,b⟩=>some (decide ((0:Int)≤a),b)
def Us:SS:=⟨9,49,[(4,vB)],[(0,.var (.aR .func) (.cV 85 de))],[]⟩
def JI:aW:=aF G [.tmp 4] 137 [.val (.slice 56 aS),.func 138 .nil (.cons (pP 0) .nil)] [(0,.var (.aR .func) (.cV 85 de))] 49 Us [0] (.bE (u2 xG))
theorem JJ:hS JI:=
 cO (hR [hE 1 [cB 0 [(0,0)] []]]) (hq JH hz) aI Tryz.call137 Tryz.func137
def xH(a0:Zq)(a1:dt):Zl:=
 Option.bind (xG a0 a1) fun⟨a,_⟩=>some (!a)
def Ms:aW:=aF G [.tmp 4] 84 [.val (.slice 56 aS),.cV 85 de] [] 49 Gz [] (.bE (u2 xH))
theorem Mt:hS Ms:=
 cO (hR [hE 1 [cB 0 [(0,19)] []]]) (hq JJ hz) aI Tryz.call84 Tryz.func84
def qh:Nat→ZD×Int×Int×Tq×Ap→Option (cQ (ZD×Int×Ap) (cQ Unit Bool)):=aK fun rec9 ⟨c,d,e,b,a,f⟩=>if(decide (a<(4:Int)))=true then(if 0≤a then(if a<(4:Int) then(Option.bind (α:=Bool) (if(decide ((nth (.int .i64) b a)<(0:Int)))=true then(some true) else(some (decide ((9:Int)<(nth (.int .i64) b a))))) fun v10=>if v10=true then(bZ (bZ (some false))) else(rec9 (c,d,e,b,aZ (a+1),f))) else none) else none) else(some (.brk (c,d,e,f)))
def xI:Nat→ZD×Int×Ap→Zt:=aK fun adl ⟨g,f,e,h⟩=>if(decide (e<f))=true then(aG (U:=ZD×Int×Ap) (if 0≤e then(if e<(List.length g:Int) then(Option.bind (f79 h (nth dY g e).2.1) fun y7=>if(!y7)=true then(bZ (bZ (some false))) else(qh (Int.toNat (4:Int)+1) (g,f,e,(nth dY g e).2.2.1,0,h))) else none) else none) fun⟨a,b,c,d⟩=>adl (a,b,aZ (c+1),d)) else(some (.brk ()))
def f87(a0:dt)(a1:kX):Zl:=
 aG (U:=dt×kX) (Option.bind (α:=Bool) (if(decide (a1.2.2.1<(0:Int)))=true then(some true) else(if(decide ((List.length a0.1.1:Int)≤a1.2.2.1))=true then(some true) else(if(decide (a1.2.2.2.1<(1:Int)))=true then(some true) else(if(decide ((255:Int)<a1.2.2.2.1))=true then(some true) else(if(decide ((List.length a1.2.2.2.2.1:Int)<(1:Int)))=true then(some true) else(if(decide ((12:Int)<(List.length a1.2.2.2.2.1:Int)))=true then(some true) else(if(0:Int)<(List.length a1.2.2.2.2.1:Int) then(some (!decide ((nth dY a1.2.2.2.2.1 (0:Int)).2.1.1=(3:Int)))) else none))))))) fun v2=>if v2=true then(bZ (some false)) else(some (.brk (a0,a1)))) fun⟨b,a⟩=>aG (U:=Unit) (xI (Int.toNat (List.length a.2.2.2.2.1:Int)+1) (a.2.2.2.2.1,(List.length a.2.2.2.2.1:Int),0,b)) fun _=>some true
def Ut:SS:=⟨77,117,[tP 2 18,tP 3 19],[(18,bV de),(19,bV bG)],[]⟩
def Pr:SS:=⟨77,117,[tP 2 18,(53,.val (.slice 120 dY)),tI 54,tI 55],[(18,bV de)],[]⟩
def Uv:SS:=⟨77,117,[],[],[]⟩
def Uw:SS:=⟨77,117,[tP 2 18,(53,.val (.slice 120 dY)),tI 54,tI 55,(65,.val L8),tI 66],[(18,bV de)],[]⟩
def Ux:SS:=⟨77,117,[(4,vB)],[],[]⟩
def c87:aW:=aF G [.tmp 4] 87 [.val de,.val bG] [] 117 Ux [] (.bE (u2 f87))
theorem x87:hS c87:=
 cO ⟨[hD 1 51 [],hA 6 0,hD 11 74 []],[(3,Ut),(14,Pr),(15,Uv)],[],[(4,⟨Pr,fun u4=>Int.toNat u4.2.1+1⟩),(9,⟨Uw,fun _=>Int.toNat (4:Int)+1⟩)],[],[]⟩ (hq TP hz) aI Tryz.call87 Tryz.func87
def oY(a0:kX)(a1:dt):Ld:=
 Option.bind (f87 a1 a0) fun y1=>some (!y1,a1)
def Uy:SS:=⟨8,48,[(3,vB)],[(0,.var (.aR .func) (.cV 87 de))],[]⟩
def JK:aW:=aF G [.tmp 3] 140 [.val bG,pP 0] [(0,.var (.aR .func) (.cV 87 de))] 48 Uy [0] (.bE (u2 oY))
theorem JL:hS JK:=
 cO (hR [hA 1 0]) (hq x87 hz) aI Tryz.call140 Tryz.func140
def BL:Nat→ZA×Int×Ap→Option (cQ dt Ap):=aK fun acK ⟨e,d,c,f⟩=>if(decide (c<d))=true then(if 0≤c then(if c<(List.length e:Int) then(Option.bind (oY (nth bG e c) f) fun⟨a,b⟩=>if a=true then(bZ (some (c,b))) else(acK (e,d,aZ (c+1),b))) else none) else none) else(some (.brk f))
def xJ(a0:ZA)(a1:dt):Option Ap:=
 aG (U:=dt) (BL (Int.toNat (List.length a0:Int)+1) (a0,(List.length a0:Int),0,a1)) fun v1=>some ((-1:Int),v1)
def Uz:SS:=⟨19,59,[],[(0,.var (.aR .func) (.cV 87 de))],[]⟩
def UA:SS:=⟨19,59,[(0,.val (.slice 96 bG)),(1,.func 140 .nil (.cons (pP 0) .nil)),tI 7,tI 8],[(0,.var (.aR .func) (.cV 87 de))],[]⟩
def UB:SS:=⟨19,59,[tI 4],[(0,.var (.aR .func) (.cV 87 de))],[]⟩
def JM:aW:=aF G [.tmp 4] 207 [.val (.slice 96 bG),.func 140 .nil (.cons (pP 0) .nil)] [(0,.var (.aR .func) (.cV 87 de))] 59 UB [0] (.bE (u2 xJ))
theorem JN:hS JM:=
 cO ⟨[hE 4 [cB 0 [(0,0)] []]],[(7,Uz)],[],[(2,⟨UA,fun u2=>Int.toNat u2.2.1+1⟩)],[],[]⟩ (hq JL hz) aI Tryz.call207 Tryz.func207
def xL(a0:ZA)(a1:dt):Ld:=
 Option.bind (xJ a0 a1) fun⟨a,b⟩=>some (decide ((0:Int)≤a),b)
def UC:SS:=⟨9,49,[(4,vB)],[(0,.var (.aR .func) (.cV 87 de))],[]⟩
def JO:aW:=aF G [.tmp 4] 139 [.val (.slice 96 bG),.func 140 .nil (.cons (pP 0) .nil)] [(0,.var (.aR .func) (.cV 87 de))] 49 UC [0] (.bE (u2 xL))
theorem JP:hS JO:=
 cO (hR [hE 1 [cB 0 [(0,0)] []]]) (hq JN hz) aI Tryz.call139 Tryz.func139
def xM(a0:ZA)(a1:dt):Zl:=
 Option.bind (xL a0 a1) fun⟨a,_⟩=>some (!a)
def Mu:aW:=aF G [.tmp 4] 86 [.val (.slice 96 bG),.cV 87 de] [] 49 Gz [] (.bE (u2 xM))
theorem Mv:hS Mu:=
 cO (hR [hE 1 [cB 0 [(0,19)] []]]) (hq JP hz) aI Tryz.call86 Tryz.func86
def f203(a0:fC)(a1:gO)(a2:Int):Option (Bool×jg):=
 aG (U:=fC×gO×Int×Int×Int×Zg×Int) (Option.bind (α:=Bool) (if(decide (a1.2.2.1<(0:Int)))=true then(some true) else(some (decide (a2≤a1.2.2.1)))) fun v2=>if v2=true then(bZ (some (false,0,0,0,[],0,([]:ZF),()))) else(some (.brk (a0,a1,0,0,0,[],0)))) fun⟨b,a,_,_,_,_,_⟩=>if 0≤a.2.2.1 then(if a.2.2.1<(List.length b.2.1.2.2.1:Int) then(Option.bind (f78 b.1 (nth aL b.2.1.2.2.1 a.2.2.1).2.2.1 a.2.2.2.1) fun⟨c,d⟩=>some (c,d)) else none) else none
def UD:SS:=⟨33,73,[tP 3 19,tP 4 20,tP 6 22],[(19,bV lG),(20,bV aS),(22,.var lE (.cons vI (.cons vI (.cons vI (.cons (.val .str) (.cons vI (.cons .bA .nil)))))))],[]⟩
def UE:SS:=⟨33,73,[tP 6 22,(7,vB)],[(22,bV lE)],[]⟩
def UF:aW:=aF G [.cell 6 96,.tmp 7] 203 [.val lG,.val aS,vI] [] 73 UE [] (.bE (u3 f203))
theorem Mw:hS UF:=
 cO ⟨[hD 1 16 [],hA 3 0],[(3,UD)],[],[],[],[]⟩ (hq Pq hz) aI Tryz.call203 Tryz.func203
def sj:Nat→Zv×Int×Int×fC→Zt:=aK fun adl ⟨k,j,i,l⟩=>if(decide (i<j))=true then(if 0≤i then(if i<(List.length k:Int) then(aG (U:=Int×Zv×Int×Int×fC×xw) (Option.bind (α:=Bool) (if(decide ((nth aL k i).2.2.1<(0:Int)))=true then(some true) else(some (decide ((List.length l.1.1.2.2.1:Int)≤(nth aL k i).2.2.1)))) fun v7=>if v7=true then(bZ (bZ (some false))) else(some (.brk (i,k,j,i,l,nth aL k i)))) fun⟨f,b,c,d,e,a⟩=>if(decide (a.2.2.2.1.2.2.1=(-1:Int)))=true then(adl (b,c,aZ (d+1),e)) else(Option.bind (f203 e a.2.2.2.1 f) fun⟨g,h⟩=>Option.bind (α:=Bool) (if(!g)=true then(some true) else(some (!decide (h.1=(3:Int))))) fun v9=>if v9=true then(bZ (some false)) else(adl (b,c,aZ (d+1),e)))) else none) else none) else(some (.brk ()))
def f133(a0:fC):Zl:=
 aG (U:=fC) (Option.bind (α:=Bool) (if(decide ((List.length a0.2.1.2.2.1:Int)<(1:Int)))=true then(some true) else(some (decide ((3:Int)<(List.length a0.2.1.2.2.1:Int))))) fun v2=>if v2=true then(bZ (some false)) else(some (.brk a0))) fun v1=>aG (U:=Unit) (sj (Int.toNat (List.length v1.2.1.2.2.1:Int)+1) (v1.2.1.2.2.1,(List.length v1.2.1.2.2.1:Int),0,v1)) fun _=>some true
def UG:SS:=⟨61,101,[tP 1 17],[(17,bV lG)],[]⟩
def UH:SS:=⟨61,101,[tP 1 17,tI 3,tP 4 20,(21,.val (.slice 96 aL)),tI 22,tI 23],[(17,bV lG),(20,bV aL)],[]⟩
def UI:SS:=⟨61,101,[],[],[]⟩
def UJ:SS:=⟨61,101,[tP 1 17,(21,.val (.slice 96 aL)),tI 22,tI 23],[(17,bV lG)],[]⟩
def UK:SS:=⟨61,101,[(2,vB)],[],[]⟩
def UL:aW:=aF G [.tmp 2] 133 [.val lG] [] 101 UK [] (.bE (u1 f133))
theorem UM:hS UL:=
 cO ⟨[hD 1 18 [],hD 6 40 [],hA 9 0,hD 10 59 []],[(3,UG),(8,UH),(13,UI)],[],[(4,⟨UJ,fun u4=>Int.toNat u4.2.1+1⟩)],[],[]⟩ (hq Mw hz) aI Tryz.call133 Tryz.func133
def f204(a0:gO):Zl:=
 Option.bind (α:=Bool) (if(decide (a0.2.2.1=(-1:Int)))=true then(if(decide ((0:Int)≤a0.2.2.2.2.1))=true then(some (decide (a0.2.2.2.2.1≤(1048576:Int)))) else(some false)) else(some false)) fun v1=>some v1
def UN:SS:=⟨16,56,[(2,vB)],[],[]⟩
def UP:aW:=aF G [.tmp 2] 204 [.val aS] [] 56 UN [] (.bE (u1 f204))
theorem Ps:hS UP:=
 cO (hR [hD 1 2 []]) hz aI Tryz.call204 Tryz.func204
def f205(a0:dt)(a1:jg)(a2:jg):Zl:=
 aG (U:=dt×jg×jg) (if(!decide (a1.1=a2.1))=true then(bZ (some false)) else(if(decide (a1.1=(4:Int)))=true then(Option.bind (f97 a1.2.2.2.2.2.1 a2.2.2.2.2.2.1) fun y2=>bZ (some y2)) else(Option.bind (α:=Bool) (if(!decide (a1.1=(1:Int)))=true then(some true) else(if(decide (a1.2.2.2.2.1=(-1:Int)))=true then(some true) else(some (decide (a2.2.2.2.2.1=(-1:Int)))))) fun v3=>if v3=true then(bZ (some (decide (a1.2.2.2.2.1=a2.2.2.2.2.1)))) else(some (.brk (a0,a1,a2)))))) fun⟨b,a,c⟩=>if 0≤a.2.2.2.2.1 then(if a.2.2.2.2.1<(List.length b.1.2.1:Int) then(if 0≤c.2.2.2.2.1 then(if c.2.2.2.2.1<(List.length b.1.2.1:Int) then(some (decide ((nth aS b.1.2.1 a.2.2.2.2.1).2.2.2.1=(nth aS b.1.2.1 c.2.2.2.2.1).2.2.2.1))) else none) else none) else none) else none
def UQ:SS:=⟨58,98,[tP 3 19,tP 4 20,tP 5 21],[(19,bV de),(20,bV lE),(21,bV lE)],[]⟩
def UR:SS:=⟨58,98,[(6,vB)],[],[]⟩
def US:aW:=aF G [.tmp 6] 205 [.val de,.val lE,.val lE] [] 98 UR [] (.bE (u3 f205))
theorem UT:hS US:=
 cO ⟨[hA 4 0,hD 5 22 []],[(7,UQ)],[],[],[],[]⟩ (hq Oc hz) aI Tryz.call205 Tryz.func205
def mH:Nat→Int×Int×fC×oR×Zq×List jg→Option (cQ (fC×oR×List jg) Bool):=aK fun adl ⟨d,c,f,h,e,g⟩=>if(decide (c<d))=true then(if 0≤c then(if c<(List.length e:Int) then(Option.bind (f203 f (nth aS e c) (List.length f.2.1.2.2.1:Int)) fun⟨a,b⟩=>Option.bind (α:=Bool) (if(!a)=true then(Option.bind (f204 (nth aS e c)) fun y7=>some (!y7)) else(some false)) fun v8=>if v8=true then(bZ (some false)) else(if a=true then(if(List.length g+List.length [b])*72≤aE then(adl (d,aZ (c+1),f,h,e,g++[b])) else none) else(adl (d,aZ (c+1),f,h,e,g)))) else none) else none) else(some (.brk (f,h,g)))
def mf:Nat→Int×Int×oR×List jg→Zt:=aK fun rec14 ⟨b,a,d,c⟩=>if(decide (a<b))=true then(if 0≤a then(if a<(List.length c:Int) then(Option.bind (α:=Bool) (if(decide ((nth lE c a).1=(1:Int)))=true then(some true) else(some (decide ((nth lE c a).1=(2:Int))))) fun v15=>Option.bind (α:=Bool) (if(decide (d.1=(2:Int)))=true then(some (!v15)) else(if(decide (d.1=(3:Int)))=true then(some (!v15)) else(some false))) fun v16=>if v16=true then(bZ (some false)) else(rec14 (b,aZ (a+1),d,c))) else none) else none) else(some (.brk ()))
def f134(a0:fC)(a1:oR):Zl:=
 aG (U:=fC×oR) (Option.bind (α:=Bool) (if(decide (a1.1<(1:Int)))=true then(some true) else(some (decide ((4:Int)<a1.1)))) fun v2=>if v2=true then(bZ (some false)) else(some (.brk (a0,a1)))) fun⟨b,a⟩=>aG (U:=fC×oR×List jg) (mH (Int.toNat (List.length [a.2.1,a.2.2.1]:Int)+1) ((List.length [a.2.1,a.2.2.1]:Int),0,b,a,[a.2.1,a.2.2.1],([]:List jg))) fun⟨d,e,c⟩=>aG (U:=oR×List jg) (Option.bind (α:=Bool) (if(decide ((List.length c:Int)=(0:Int)))=true then(some true) else(if(decide ((List.length c:Int)=(2:Int)))=true then(if(0:Int)<(List.length c:Int) then(if(1:Int)<(List.length c:Int) then(Option.bind (f205 d.1 (nth lE c (0:Int)) (nth lE c (1:Int))) fun y10=>some (!y10)) else none) else none) else(some false))) fun v11=>if v11=true then(bZ (some false)) else(some (.brk (e,c)))) fun⟨g,f⟩=>aG (U:=Unit) (mf (Int.toNat (List.length f:Int)+1) ((List.length f:Int),0,g,f)) fun _=>some true
def UU:SS:=⟨101,141,[tP 2 18,tP 3 19],[(18,bV lG),(19,bV aP)],[]⟩
def UW:SS:=⟨101,141,[tP 2 18,tP 3 19,(5,.own 118)],[(18,bV lG),(19,bV aP),(118,.row 96 72 lE)],[]⟩
def UX:SS:=⟨101,141,[tP 3 19,(5,.own 118)],[(19,bV aP),(118,.row 96 72 lE)],[]⟩
def UY:SS:=⟨101,141,[],[],[]⟩
def UZ:SS:=⟨101,141,[tP 2 18,tP 3 19,(5,.own 117),(25,.own 41),tI 26,tI 27],[(18,bV lG),(19,bV aP),(41,.row 251 56 aS),(117,.row 96 72 lE)],[]⟩
def U0:SS:=⟨101,141,[tP 3 19,(74,.own 118),tI 75,tI 76],[(19,bV aP),(118,.row 96 72 lE)],[]⟩
def U1:SS:=⟨101,141,[(4,vB)],[],[]⟩
def U2:aW:=aF G [.tmp 4] 134 [.val lG,.val aP] [] 141 U1 [] (.bE (u2 f134))
theorem U3:hS U2:=
 cO ⟨[hD 1 20 [],hA 7 0,hD 8 47 [cA 1],hD 13 73 [cA 2],hD 18 12 [],hD 19 99 []],[(3,UU),(13,UW),(15,UX),(22,UY)],[],[(5,⟨UZ,fun u4=>Int.toNat u4.1+1⟩),(16,⟨U0,fun Hf=>Int.toNat Hf.1+1⟩)],[],[]⟩ (hq Mw (hq Ps (hq UT hz))) aI Tryz.call134 Tryz.func134
def f135(a0:fC)(a1:jg)(a2:gO):Zl:=
 Option.bind (f204 a2) fun y1=>if y1=true then(Option.bind (α:=Bool) (if(decide (a1.2.1≤a2.2.2.2.2.1))=true then(some (decide (a2.2.2.2.2.1≤a1.2.2.1))) else(some false)) fun v2=>some v2) else(Option.bind (f203 a0 a2 (List.length a0.2.1.2.2.1:Int)) fun⟨a,b⟩=>Option.bind (α:=Bool) (if a=true then(if(decide (b.1=a1.1))=true then(if(decide (b.2.2.2.2.1=a1.2.2.2.2.1))=true then(Option.bind (f97 b.2.2.2.2.2.1 a1.2.2.2.2.2.1) fun y4=>if y4=true then(if(decide (a1.2.1≤b.2.1))=true then(if(decide (b.2.1≤a1.2.2.1))=true then(if(decide (a1.2.1≤b.2.2.1))=true then(some (decide (b.2.2.1≤a1.2.2.1))) else(some false)) else(some false)) else(some false)) else(some false)) else(some false)) else(some false)) else(some false)) fun v5=>some v5)
def U4:SS:=⟨83,123,[(6,vB)],[],[]⟩
def U5:aW:=aF G [.tmp 6] 135 [.val lG,.val lE,.val aS] [] 123 U4 [] (.bE (u3 f135))
theorem U6:hS U5:=
 cO (hR [hA 1 0,hD 2 6 [],hA 3 1,hD 4 6 [cA 2]]) (hq Ps (hq Mw (hq Oc hz))) aI Tryz.call135 Tryz.func135
def xN:Nat→Ze×Int×Int×Zm→Zt:=aK fun acK ⟨c,b,a,d⟩=>if(decide (a<b))=true then(if 0≤a then(if a<(List.length c:Int) then(if(bw (.int .i64) .bool (nth (.int .i64) c a) d)=true then(bZ (some false)) else(if List.length d+1≤aE then(acK (c,b,aZ (a+1),bB (.int .i64) (nth (.int .i64) c a) true d)) else none)) else none) else none) else(some (.brk ()))
def f136(a0:Ze):Zl:=
 aG (U:=Unit) (xN (Int.toNat (List.length a0:Int)+1) (a0,(List.length a0:Int),0,([]:Zm))) fun _=>some true
def U7:SS:=⟨21,61,[],[],[]⟩
def U8:SS:=⟨21,61,[(3,.mp 24),(9,.val (.slice 8 (.int .i64))),tI 10,tI 11],[(24,.map (.int .i64) .bool)],[]⟩
def U9:SS:=⟨21,61,[(2,vB)],[],[]⟩
def Va:aW:=aF G [.tmp 2] 136 [.val (.slice 8 (.int .i64))] [] 61 U9 [] (.bE (u1 f136))
theorem Vb:hS Va:=
 cO ⟨[],[(9,U7)],[],[(3,⟨U8,fun u2=>Int.toNat u2.2.1+1⟩)],[],[]⟩ hz aI Tryz.call136 Tryz.func136
def qi:Nat→Zx×Int×Int×fC→Option (cQ fC Bool):=aK fun rec6 ⟨c,b,a,d⟩=>if(decide (a<b))=true then(if 0≤a then(if a<(List.length c:Int) then(Option.bind (f134 d (nth aP c a)) fun y7=>if(!y7)=true then(bZ (some false)) else(rec6 (c,b,aZ (a+1),d))) else none) else none) else(some (.brk d))
def mI:Nat→Int×Zy×Int×Int×fC×Ze→Option (cQ Ze Bool):=aK fun rec12 ⟨g,e,d,c,f,h⟩=>if(decide (c<d))=true then(if 0≤c then(if c<(List.length e:Int) then(Option.bind (f78 f.1 g (nth aX e c).2.1) fun⟨a,b⟩=>Option.bind (α:=Bool) (if(!a)=true then(some true) else(if(decide ((nth aX e c).2.1=(0:Int)))=true then(some true) else(Option.bind (f135 f b (nth aX e c).2.2.1) fun y14=>some (!y14)))) fun v15=>if v15=true then(bZ (some false)) else(if(List.length h+List.length [(nth aX e c).2.1])*8≤aE then(rec12 (g,e,d,aZ (c+1),f,h++[(nth aX e c).2.1])) else none)) else none) else none) else(some (.brk h))
def f83(a0:fC):Zl:=
 aG (U:=fC) (Option.bind (α:=Bool) (Option.bind (f133 a0) fun y2=>if(!y2)=true then(some true) else(some (decide ((8:Int)<(List.length a0.2.1.2.2.2.1:Int))))) fun v3=>if v3=true then(bZ (some false)) else(some (.brk a0))) fun v1=>aG (U:=fC) (qi (Int.toNat (List.length v1.2.1.2.2.2.1:Int)+1) (v1.2.1.2.2.2.1,(List.length v1.2.1.2.2.2.1:Int),0,v1)) fun v4=>aG (U:=Int×fC) (Option.bind (α:=Bool) (if(decide (v4.2.1.2.1<(0:Int)))=true then(some true) else(if(decide ((List.length v4.1.1.2.2.1:Int)≤v4.2.1.2.1))=true then(some true) else(if 0≤v4.2.1.2.1 then(if v4.2.1.2.1<(List.length v4.1.1.2.2.1:Int) then(some (!decide ((List.length v4.2.1.2.2.2.2.1:Int)=(aZ ((List.length (nth bG v4.1.1.2.2.1 v4.2.1.2.1).2.2.2.2.1:Int) -(1:Int)))))) else none) else none))) fun v9=>if v9=true then(bZ (some false)) else(some (.brk (v4.2.1.2.1,v4)))) fun⟨b,a⟩=>aG (U:=Ze) (mI (Int.toNat (List.length a.2.1.2.2.2.2.1:Int)+1) (b,a.2.1.2.2.2.2.1,(List.length a.2.1.2.2.2.2.1:Int),0,a,([]:Ze))) fun v10=>Option.bind (f136 v10) fun y16=>some y16
def Pt:SS:=⟨105,145,[tP 1 17],[(17,bV lG)],[]⟩
def Vc:SS:=⟨105,145,[tP 1 17,tI 5],[(17,bV lG)],[]⟩
def Vd:SS:=⟨105,145,[(6,.own 122)],[(122,.row 3 8 (.int .i64))],[]⟩
def Ve:SS:=⟨105,145,[tP 1 17,(23,.val (.slice 120 aP)),tI 24,tI 25],[(17,bV lG)],[]⟩
def Vf:SS:=⟨105,145,[tP 1 17,tI 5,(6,.own 121),(67,.val (.slice 80 aX)),tI 68,tI 69],[(17,bV lG),(121,.row 3 8 (.int .i64))],[]⟩
def Vg:SS:=⟨105,145,[(2,vB)],[],[]⟩
def c83:aW:=aF G [.tmp 2] 83 [.val lG] [] 145 Vg [] (.bE (u1 f83))
theorem x83:hS c83:=
 cO ⟨[hD 1 20 [cA 0],hA 6 1,hD 10 64 [],hA 16 2,hD 17 96 [cA 3],hA 21 4],[(3,Pt),(9,Pt),(12,Vc),(21,Vd)],[],[(4,⟨Ve,fun u5=>Int.toNat u5.2.1+1⟩),(14,⟨Vf,fun IV=>Int.toNat IV.2.2.1+1⟩)],[],[]⟩ (hq UM (hq U3 (hq Pq (hq U6 (hq Vb hz))))) aI Tryz.call83 Tryz.func83
def BM(a0:dq)(a1:dt):Zl:=
 Option.bind (f83 (a1,a0,())) fun y1=>some y1
def Vh:SS:=⟨8,48,[(3,vB)],[],[]⟩
def Mx:aW:=aF G [.tmp 3] 82 [.val bz,.bL de] [] 48 Vh [] (.bE (u2 BM))
theorem My:hS Mx:=
 cO (hR [hA 1 0]) (hq x83 hz) aI Tryz.call82 Tryz.func82
def oZ(a0:dq)(a1:dt):Ld:=
 Option.bind (BM a0 a1) fun y1=>some (!y1,a1)
def Vi:SS:=⟨8,48,[(3,vB)],[(0,.var (.aR .func) (.func 82 .nil (.cons (.bL de) .nil)))],[]⟩
def JQ:aW:=aF G [.tmp 3] 141 [.val bz,pP 0] [(0,.var (.aR .func) (.func 82 .nil (.cons (.bL de) .nil)))] 48 Vi [0] (.bE (u2 oZ))
theorem JR:hS JQ:=
 cO (hR [hA 1 0]) (hq My hz) aI Tryz.call141 Tryz.func141
def BN:Nat→Zn×Int×Ap→Option (cQ dt Ap):=aK fun acK ⟨e,d,c,f⟩=>if(decide (c<d))=true then(if 0≤c then(if c<(List.length e:Int) then(Option.bind (oZ (nth bz e c) f) fun⟨a,b⟩=>if a=true then(bZ (some (c,b))) else(acK (e,d,aZ (c+1),b))) else none) else none) else(some (.brk f))
def xO(a0:Zn)(a1:dt):Option Ap:=
 aG (U:=dt) (BN (Int.toNat (List.length a0:Int)+1) (a0,(List.length a0:Int),0,a1)) fun v1=>some ((-1:Int),v1)
def Vj:SS:=⟨19,59,[],[(0,.var (.aR .func) (.func 82 .nil (.cons (.bL de) .nil)))],[]⟩
def Vk:SS:=⟨19,59,[(0,.val (.slice 96 bz)),(1,.func 141 .nil (.cons (pP 0) .nil)),tI 7,tI 8],[(0,.var (.aR .func) (.func 82 .nil (.cons (.bL de) .nil)))],[]⟩
def Vl:SS:=⟨19,59,[tI 4],[(0,.var (.aR .func) (.func 82 .nil (.cons (.bL de) .nil)))],[]⟩
def JS:aW:=aF G [.tmp 4] 161 [.val (.slice 96 bz),.func 141 .nil (.cons (pP 0) .nil)] [(0,.var (.aR .func) (.func 82 .nil (.cons (.bL de) .nil)))] 59 Vl [0] (.bE (u2 xO))
theorem JT:hS JS:=
 cO ⟨[hE 4 [cB 0 [(0,0)] []]],[(7,Vj)],[],[(2,⟨Vk,fun u2=>Int.toNat u2.2.1+1⟩)],[],[]⟩ (hq JR hz) aI Tryz.call161 Tryz.func161
def xP(a0:Zn)(a1:dt):Ld:=
 Option.bind (xO a0 a1) fun⟨a,b⟩=>some (decide ((0:Int)≤a),b)
def Vm:SS:=⟨9,49,[(4,vB)],[(0,.var (.aR .func) (.func 82 .nil (.cons (.bL de) .nil)))],[]⟩
def JU:aW:=aF G [.tmp 4] 108 [.val (.slice 96 bz),.func 141 .nil (.cons (pP 0) .nil)] [(0,.var (.aR .func) (.func 82 .nil (.cons (.bL de) .nil)))] 49 Vm [0] (.bE (u2 xP))
theorem JV:hS JU:=
 cO (hR [hE 1 [cB 0 [(0,0)] []]]) (hq JT hz) aI Tryz.call108 Tryz.func108
def xQ(a0:Zn)(a1:dt):Zl:=
 Option.bind (xP a0 a1) fun⟨a,_⟩=>some (!a)
def Mz:aW:=aF G [.tmp 4] 88 [.val (.slice 96 bz),.func 82 .nil (.cons (.bL de) .nil)] [] 49 Gz [] (.bE (u2 xQ))
theorem MA:hS Mz:=
 cO (hR [hE 1 [cB 0 [(0,19)] []]]) (hq JV hz) aI Tryz.call88 Tryz.func88
def qj:Nat→List nL×Int×Int×dt×mU→Option (cQ mU Bool):=aK fun acK ⟨d,c,b,e,f⟩=>if(decide (b<c))=true then(if 0≤b then(if b<(List.length d:Int) then(Option.bind (f78 e (nth eA d b).2.2.1 (nth eA d b).2.2.2.1) fun⟨a,_⟩=>if(!a)=true then(bZ (some false)) else(acK (d,c,aZ (b+1),e,f))) else none) else none) else(some (.brk f))
def f90(a0:dt)(a1:mU):Zl:=
 aG (U:=mU) (qj (Int.toNat (List.length a1.2.1:Int)+1) (a1.2.1,(List.length a1.2.1:Int),0,a0,a1)) fun v1=>Option.bind (α:=Bool) (if(decide ((0:Int)≤v1.2.2.1))=true then(some (decide (v1.2.2.1≤(64:Int)))) else(some false)) fun v5=>some v5
def Vn:SS:=⟨36,76,[tP 3 19],[(19,bV dk)],[]⟩
def Vo:SS:=⟨36,76,[tP 2 18,tP 3 19,(10,.val (.slice 48 eA)),tI 11,tI 12],[(18,bV de),(19,bV dk)],[]⟩
def Vp:SS:=⟨36,76,[(4,vB)],[],[]⟩
def c90:aW:=aF G [.tmp 4] 90 [.val de,.val dk] [] 76 Vp [] (.bE (u2 f90))
theorem x90:hS c90:=
 cO ⟨[hA 4 0,hD 8 4 []],[(8,Vn)],[],[(2,⟨Vo,fun u2=>Int.toNat u2.2.1+1⟩)],[],[]⟩ (hq Pq hz) aI Tryz.call90 Tryz.func90
def o9(a0:mU)(a1:dt):Ld:=
 Option.bind (f90 a1 a0) fun y1=>some (!y1,a1)
def Vq:SS:=⟨8,48,[(3,vB)],[(0,.var (.aR .func) (.cV 90 de))],[]⟩
def JW:aW:=aF G [.tmp 3] 142 [.val dk,pP 0] [(0,.var (.aR .func) (.cV 90 de))] 48 Vq [0] (.bE (u2 o9))
theorem JX:hS JW:=
 cO (hR [hA 1 0]) (hq x90 hz) aI Tryz.call142 Tryz.func142
def BO:Nat→Zz×Int×Ap→Option (cQ dt Ap):=aK fun acK ⟨e,d,c,f⟩=>if(decide (c<d))=true then(if 0≤c then(if c<(List.length e:Int) then(Option.bind (o9 (nth dk e c) f) fun⟨a,b⟩=>if a=true then(bZ (some (c,b))) else(acK (e,d,aZ (c+1),b))) else none) else none) else(some (.brk f))
def xR(a0:Zz)(a1:dt):Option Ap:=
 aG (U:=dt) (BO (Int.toNat (List.length a0:Int)+1) (a0,(List.length a0:Int),0,a1)) fun v1=>some ((-1:Int),v1)
def Vr:SS:=⟨19,59,[],[(0,.var (.aR .func) (.cV 90 de))],[]⟩
def Vs:SS:=⟨19,59,[(0,.val (.slice 48 dk)),(1,.func 142 .nil (.cons (pP 0) .nil)),tI 7,tI 8],[(0,.var (.aR .func) (.cV 90 de))],[]⟩
def Vt:SS:=⟨19,59,[tI 4],[(0,.var (.aR .func) (.cV 90 de))],[]⟩
def JY:aW:=aF G [.tmp 4] 202 [.val (.slice 48 dk),.func 142 .nil (.cons (pP 0) .nil)] [(0,.var (.aR .func) (.cV 90 de))] 59 Vt [0] (.bE (u2 xR))
theorem JZ:hS JY:=
 cO ⟨[hE 4 [cB 0 [(0,0)] []]],[(7,Vr)],[],[(2,⟨Vs,fun u2=>Int.toNat u2.2.1+1⟩)],[],[]⟩ (hq JX hz) aI Tryz.call202 Tryz.func202
def xS(a0:Zz)(a1:dt):Ld:=
 Option.bind (xR a0 a1) fun⟨a,b⟩=>some (decide ((0:Int)≤a),b)
def Vu:SS:=⟨9,49,[(4,vB)],[(0,.var (.aR .func) (.cV 90 de))],[]⟩
def J0:aW:=aF G [.tmp 4] 131 [.val (.slice 48 dk),.func 142 .nil (.cons (pP 0) .nil)] [(0,.var (.aR .func) (.cV 90 de))] 49 Vu [0] (.bE (u2 xS))
theorem J1:hS J0:=
 cO (hR [hE 1 [cB 0 [(0,0)] []]]) (hq JZ hz) aI Tryz.call131 Tryz.func131
def xT(a0:Zz)(a1:dt):Zl:=
 Option.bind (xS a0 a1) fun⟨a,_⟩=>some (!a)
def MB:aW:=aF G [.tmp 4] 89 [.val (.slice 48 dk),.cV 90 de] [] 49 Gz [] (.bE (u2 xT))
theorem MC:hS MB:=
 cO (hR [hE 1 [cB 0 [(0,19)] []]]) (hq J1 hz) aI Tryz.call89 Tryz.func89
def f57(a0:cz):ZM:=
 Option.bind (f81 (a0,())) fun y1=>if(!y1)=true then(some (2:Int)) else(Option.bind (α:=Bool) (Option.bind (xH a0.2.1 (a0,())) fun y2=>if(!y2)=true then(some true) else(Option.bind (xM a0.2.2.1 (a0,())) fun y3=>if(!y3)=true then(some true) else(Option.bind (xQ a0.2.2.2.1 (a0,())) fun y4=>if(!y4)=true then(some true) else(Option.bind (xT a0.2.2.2.2.2.1 (a0,())) fun y5=>some (!y5))))) fun v6=>if v6=true then(some (120:Int)) else(some (0:Int)))
def Vv:SS:=⟨40,80,[tI 2],[],[]⟩
def c57:aW:=aF G [.tmp 2] 57 [.val gE] [] 80 Vv [] (.bE (u1 f57))
theorem Yy:hS c57:=
 cO (hR [hA 2 0,hD 5 39 [cA 1,cA 2,cA 3,cA 4]]) (hq x81 (hq Mt (hq Mv (hq MA (hq MC hz))))) aI Tryz.call57 Tryz.func57
def f208(a0:Int)(a1:Int):Zl:=
 if 0≤a1 then(some (decide ((ib .and .u64 (Int.fdiv a0 (2^(min (Int.toNat a1) 64))) (1:Int))=(1:Int)))) else none
def Vw:SS:=⟨10,50,[(4,vB)],[],[]⟩
def Vx:aW:=aF G [.tmp 4] 208 [.val (.int .u64),vI] [] 50 Vw [] (.bE (u2 f208))
theorem Vy:hS Vx:=
 cO (hR []) hz aI Tryz.call208 Tryz.func208
def mJ:Nat→Int×Int×Ze×Int×Int×ja→Option (cQ (Int×Int×ja) Bool):=aK fun acK ⟨d,e,c,b,a,f⟩=>if(decide (a<b))=true then(if 0≤a then(if a<(List.length c:Int) then(Option.bind (α:=Bool) (if(decide ((nth (.int .i64) c a)<(0:Int)))=true then(some true) else(if(decide (d≤(nth (.int .i64) c a)))=true then(some true) else(Option.bind (f208 e (nth (.int .i64) c a)) fun y4=>some y4))) fun v5=>if v5=true then(bZ (some false)) else(if 0≤(nth (.int .i64) c a) then(acK (d,ib .or .u64 e (IntKind.u64.wrap ((1:Int)*2^(min (Int.toNat (nth (.int .i64) c a)) 64))),c,b,aZ (a+1),f)) else none)) else none) else none) else(some (.brk (d,e,f)))
def f143(a0:ja)(a1:Int):Zl:=
 aG (U:=Int×Int×ja) (mJ (Int.toNat (List.length a0.2.2.1:Int)+1) (a1,0,a0.2.2.1,(List.length a0.2.2.1:Int),0,a0)) fun⟨c,a,b⟩=>Option.bind (α:=Bool) (if(!decide (a=(0:Int)))=true then(if(decide ((0:Int)≤b.2.2.2.1))=true then(if(decide (b.2.2.2.1<c))=true then(Option.bind (f208 a b.2.2.2.1) fun y6=>some (!y6)) else(some false)) else(some false)) else(some false)) fun v7=>some v7
def Vz:SS:=⟨52,92,[tI 1,tP 2 18,(5,.val (.int .u64))],[(18,bV ew)],[]⟩
def VA:SS:=⟨52,92,[tI 1,tP 2 18,(5,.val (.int .u64)),(9,.val (.slice 8 (.int .i64))),tI 10,tI 11],[(18,bV ew)],[]⟩
def VB:SS:=⟨52,92,[(4,vB)],[],[]⟩
def VD:aW:=aF G [.tmp 4] 143 [.val ew,vI] [] 92 VB [] (.bE (u2 f143))
theorem VE:hS VD:=
 cO ⟨[hD 5 26 [cA 0],hD 9 4 [cA 0]],[(9,Vz)],[],[(3,⟨VA,fun u2=>Int.toNat u2.2.2.2.1+1⟩)],[],[]⟩ (hq Vy hz) aI Tryz.call143 Tryz.func143
def tW:Nat→List ja×Int×Int×kX→Option (cQ Unit Int):=aK fun adl ⟨c,b,a,d⟩=>if(decide (a<b))=true then(if 0≤a then(if a<(List.length c:Int) then(Option.bind (f143 (nth ew c a) (List.length d.2.2.2.2.1:Int)) fun y6=>if(!y6)=true then(bZ (some (130:Int))) else(adl (c,b,aZ (a+1),d))) else none) else none) else(some (.brk ()))
def f91(a0:kX):ZM:=
 aG (U:=kX) (Option.bind (α:=Bool) (if(decide ((List.length a0.2.2.2.2.1:Int)<(1:Int)))=true then(some true) else(if(decide ((12:Int)<(List.length a0.2.2.2.2.1:Int)))=true then(some true) else(some (decide ((12:Int)<(List.length a0.2.2.2.2.2.1:Int)))))) fun v2=>if v2=true then(bZ (some (130:Int))) else(some (.brk a0))) fun v1=>aG (U:=Unit) (tW (Int.toNat (List.length v1.2.2.2.2.2.1:Int)+1) (v1.2.2.2.2.2.1,(List.length v1.2.2.2.2.2.1:Int),0,v1)) fun _=>some (0:Int)
def VF:SS:=⟨35,75,[tP 1 17],[(17,bV bG)],[]⟩
def VG:SS:=⟨35,75,[],[],[]⟩
def VH:SS:=⟨35,75,[tP 1 17,(22,.val (.slice 72 ew)),tI 23,tI 24],[(17,bV bG)],[]⟩
def VI:SS:=⟨35,75,[tI 2],[],[]⟩
def c91:aW:=aF G [.tmp 2] 91 [.val bG] [] 75 VI [] (.bE (u1 f91))
theorem x91:hS c91:=
 cO ⟨[hD 1 20 [],hA 6 0],[(3,VF),(9,VG)],[],[(4,⟨VH,fun u4=>Int.toNat u4.2.1+1⟩)],[],[]⟩ (hq VE hz) aI Tryz.call91 Tryz.func91
def BP:Nat→ZA×ZX→Option (cQ Unit Int):=aK fun acK ⟨c,b,a⟩=>if(decide (a<b))=true then(if 0≤a then(if a<(List.length c:Int) then(Option.bind (f91 (nth bG c a)) fun y4=>if(!decide (y4=(0:Int)))=true then(bZ (some y4)) else(acK (c,b,aZ (a+1)))) else none) else none) else(some (.brk ()))
def f58(a0:cz):ZM:=
 aG (U:=Unit) (BP (Int.toNat (List.length a0.2.2.1:Int)+1) (a0.2.2.1,(List.length a0.2.2.1:Int),0)) fun _=>some (0:Int)
def VJ:SS:=⟨19,59,[],[],[]⟩
def VK:SS:=⟨19,59,[(7,.val (.slice 96 bG)),tI 8,tI 9],[],[]⟩
def VL:SS:=⟨19,59,[tI 2],[],[]⟩
def c58:aW:=aF G [.tmp 2] 58 [.val gE] [] 59 VL [] (.bE (u1 f58))
theorem x58:hS c58:=
 cO ⟨[hA 4 0],[(8,VJ)],[],[(2,⟨VK,fun u2=>Int.toNat u2.2.1+1⟩)],[],[]⟩ (hq x91 hz) aI Tryz.call58 Tryz.func58
def pa(a0:Int)(a1:Int)(a2:ZN):Option (Bool×ZN):=
 Option.bind (α:=Bool) (if(decide ((0:Int)≤a1))=true then(some (decide (a1<a0))) else(some false)) fun v1=>some (v1,a2)
def VM:SS:=⟨13,53,[(4,vB)],[(0,.pmap (.int .i64) (.map (.int .i64) .bool) 0)],[]⟩
def J2:aW:=aF G [.tmp 4] 146 [.cons vI (.cons (.mp 0) .nil),vI] [(0,.pmap (.int .i64) (.map (.int .i64) .bool) 0)] 53 VM [0] (.bE (u3 pa))
theorem J3:hS J2:=
 cO (hR [hD 1 4 []]) hz aI Tryz.call146 Tryz.func146
def mK:Nat→Zn×Int×Int×Zv×Int×Int×Int×dq×ZN→Option (cQ (Zn×Int×Int×Int×ZN) (cQ (Int×ZN) (Int×dR))):=aK fun rec8 ⟨i,j,k,e,d,c,f,h,g⟩=>if(decide (c<d))=true then(if 0≤c then(if c<(List.length e:Int) then(Option.bind (pa f (nth aL e c).2.2.1 g) fun⟨a,b⟩=>if(!a)=true then(bZ (bZ (some (140,0,(none:Option ZN),())))) else(if ck (.int .i64) h.2.1 b=true then(if aY (.int .i64) h.2.1 h.2.1=true then(if List.length (bM (bw (.int .i64) (.map (.int .i64) .bool) h.2.1 b))+1≤aE then(rec8 (i,j,k,e,d,aZ (c+1),f,h,bB (.int .i64) h.2.1 (some (bB (.int .i64) (nth aL e c).2.2.1 true (bM (bw (.int .i64) (.map (.int .i64) .bool) h.2.1 b)))) b)) else none) else none) else none)) else none) else none) else(some (.brk (i,j,k,f,g)))
def qk:Nat→Zn×Int×Int×Int×ZN→Option (cQ (Int×ZN) (Int×dR)):=aK fun acK ⟨p,o,n,q,r⟩=>if(decide (n<o))=true then(aG (U:=Zn×Int×Int×Int×ZN) (if 0≤n then(if n<(List.length p:Int) then(Option.bind (pa q (nth bz p n).2.1 r) fun⟨a,b⟩=>if(!a)=true then(bZ (bZ (some (140,0,(none:Option ZN),())))) else(aG (U:=Zn×Int×Int×Int×dq×ZN) (if(!(ck (.int .i64) (nth bz p n).2.1 b))=true then(if ck (.int .i64) (nth bz p n).2.1 b=false then(if aY (.int .i64) (nth bz p n).2.1 (nth bz p n).2.1=true then(if List.length b+1≤aE then(some (.brk (p,o,n,q,nth bz p n,bB (.int .i64) (nth bz p n).2.1 (some ([]:Zm)) (bB (.int .i64) (nth bz p n).2.1 (Ty.aD (.map (.int .i64) .bool)) b)))) else none) else none) else none) else(some (.brk (p,o,n,q,nth bz p n,b)))) fun⟨d,e,f,g,c,h⟩=>mK (Int.toNat (List.length c.2.2.1:Int)+1) (d,e,f,c.2.2.1,(List.length c.2.2.1:Int),0,g,c,h))) else none) else none) fun⟨i,j,k,l,m⟩=>acK (i,j,aZ (k+1),l,m)) else(some (.brk (q,r)))
def f95(a0:cz):Option (Int×dR):=
 aG (U:=Int×ZN) (qk (Int.toNat (List.length a0.2.2.2.1:Int)+1) (a0.2.2.2.1,(List.length a0.2.2.2.1:Int),0,(List.length a0.2.2.1:Int),([]:ZN))) fun⟨a,b⟩=>some (0,a,some b,())
def VN:SS:=⟨60,100,[tP 2 18,tP 5 21,(14,.val (.slice 96 bz)),tI 15,tI 16],[(18,.var lH (.cons vI (.cons (.mp 27) .nil))),(21,bV bz),(27,.pmap (.int .i64) (.map (.int .i64) .bool) 0)],[]⟩
def Pu:SS:=⟨60,100,[tP 2 18,(14,.val (.slice 96 bz)),tI 15,tI 16],[(18,.var lH (.cons vI (.cons (.mp 27) .nil))),(27,.pmap (.int .i64) (.map (.int .i64) .bool) 0)],[]⟩
def VO:SS:=⟨60,100,[tP 2 18],[(18,.var lH (.cons vI (.cons (.mp 27) .nil))),(27,.pmap (.int .i64) (.map (.int .i64) .bool) 0)],[]⟩
def VP:SS:=⟨60,100,[tP 2 18,tP 5 21,(14,.val (.slice 96 bz)),tI 15,tI 16,(38,.val (.slice 96 aL)),tI 39,tI 40],[(18,.var lH (.cons vI (.cons (.mp 27) .nil))),(21,bV bz),(27,.pmap (.int .i64) (.map (.int .i64) .bool) 0)],[]⟩
def VQ:SS:=⟨60,100,[tP 2 18,tI 3],[(18,bV lH)],[]⟩
def c95:aW:=aF G [.cell 2 199,.tmp 3] 95 [.val gE] [] 100 VQ [] (.bE (u1 f95))
theorem x95:hS c95:=
 cO ⟨[(2,⟨[.FF 27 0],[],[],none,[],[],[]⟩),hE 5 [cB 0 [(0,27)] []],(8,⟨[],[],[],none,[],[.map 0 27 0 (.c 5 [.cw 1])],[.lv 27]⟩),hE 12 [cB 0 [(0,27)] []],(14,⟨[],[],[],none,[],[.map 1 27 76 (.c 5 [.cw 1])],[.lv 27]⟩),(17,⟨[.EA 27],[],[],none,[],[],[]⟩)],[(9,VN),(16,Pu),(17,VO)],[],[(3,⟨Pu,fun u2=>Int.toNat u2.2.1+1⟩),(10,⟨VP,fun u7=>Int.toNat u7.2.2.2.2.1+1⟩)],[],[]⟩ (hq J3 hz) aI Tryz.call95 Tryz.func95
def BQ(a0:dR):Option dR:=
 some a0
def VT:SS:=⟨4,44,[(2,.func 147 .nil (.cons (pP 17) .nil))],[(17,bV lH)],[]⟩
def MD:aW:=aF G [.tmp 2] 96 [.val lH] [] 44 VT [17] (.bE (u1 BQ))
theorem ME:hS MD:=
 cO (hR []) hz aI Tryz.call96 Tryz.func96
def xU:Nat→Int×Int×Int×dR×ZR×Zm→Option (cQ (Int×Int×dR×ZR) (cQ ZR ZR)):=aK fun rec6 ⟨f,b,c,d,e,a⟩=>if List.isEmpty a=true then(some (.brk (b,c,d,e))) else Ec a fun x7 l8=>if 0≤x7.1 then(if x7.1<(List.length e:Int) then(if 0≤x7.1 then(if Int.toNat x7.1=(Int.toNat x7.1) then(if(List.length (List.getD e (Int.toNat x7.1) [])+List.length [f])*8≤aE then(if 0≤x7.1 then(if Int.toNat x7.1=(Int.toNat x7.1) then(rec6 (f,b,c,d,List.set e (Int.toNat x7.1) ((List.getD e (Int.toNat x7.1) [])++[f]),l8)) else none) else none) else none) else none) else none) else none) else none
def sk:Nat→Int×Int×dR×ZR→Option (cQ ZR ZR):=aK fun acK ⟨f,e,g,h⟩=>if(decide (e<f))=true then(aG (U:=Int×Int×dR×ZR) (xU (List.length (bM (bw (.int .i64) (.map (.int .i64) .bool) e (bM g.2.1)))+1) (e,f,e,g,h,bM (bw (.int .i64) (.map (.int .i64) .bool) e (bM g.2.1)))) fun⟨a,b,c,d⟩=>acK (a,aZ (b+1),c,d)) else(some (.brk h))
def f148(a0:dR):Option ZR:=
 if 0≤a0.1 then(if a0.1≤a0.1 then(if a0.1*(24:Int)≤(aE:Int) then(aG (U:=ZR) (sk (Int.toNat a0.1+1) (a0.1,0,a0,List.replicate (Int.toNat a0.1) [])) fun v1=>some v1) else none) else none) else none
def Pv:SS:=⟨35,75,[tP 1 17,(3,.own 24),tI 10,tI 11],[(17,bV lH),(24,.cS 30 24 (.slice 8 (.int .i64)) 3)],[]⟩
def VU:SS:=⟨35,75,[(3,.own 24)],[(24,.cS 30 24 (.slice 8 (.int .i64)) 3)],[]⟩
def VV:SS:=⟨35,75,[tP 1 17,(3,.own 24),tI 4,tI 10,tI 11,tP 18 34],[(17,bV lH),(24,.cS 30 24 (.slice 8 (.int .i64)) 3),(34,.lB (.int .i64) .bool)],[]⟩
def VW:SS:=⟨35,75,[(2,.val (.slice 24 (.slice 8 (.int .i64))))],[],[]⟩
def Pw:aW:=aF G [.tmp 2] 148 [.val lH] [] 75 VW [] (.bE (u1 f148))
theorem VX:hS Pw:=
 cO ⟨[(8,⟨[],[],[],none,[],[.row 24 51 (.t 5)],[.oJ 24]⟩),(10,⟨[.EA 24],[],[],none,[],[],[]⟩)],[(9,Pv),(10,VU)],[],[(3,⟨Pv,fun u2=>Int.toNat u2.1+1⟩),(6,⟨VV,fun u5=>List.length u5.2.2.2.2.2+1⟩)],[],[]⟩ hz aI Tryz.call148 Tryz.func148
def pb(a0:Ze):Option (Int×Ze):=
 some ((List.length a0:Int),a0)
def VY:SS:=⟨5,45,[tI 2],[(0,.row 3 8 (.int .i64))],[]⟩
def J4:aW:=aF G [.tmp 2] 150 [.own 0] [(0,.row 3 8 (.int .i64))] 45 VY [0] (.bE (u1 pb))
theorem Dz:hS J4:=
 cO (hR []) hz aI Tryz.call150 Tryz.func150
def kZ(a0:Int)(a1:Int)(a2:Ze):Option (Bool×Ze):=
 if 0≤a0 then(if a0<(List.length a2:Int) then(if 0≤a1 then(if a1<(List.length a2:Int) then(some (decide ((nth (.int .i64) a2 a0)<(nth (.int .i64) a2 a1)),a2)) else none) else none) else none) else none
def VZ:SS:=⟨16,56,[(6,vB)],[(0,.row 3 8 (.int .i64))],[]⟩
def J5:aW:=aF G [.tmp 6] 241 [.own 0,vI,vI] [(0,.row 3 8 (.int .i64))] 56 VZ [0] (.bE (u3 kZ))
theorem DA:hS J5:=
 cO (hR []) hz aI Tryz.call241 Tryz.func241
def jW(a0:Int)(a1:Int)(a2:Ze):Option Ze:=
 if 0≤a1 then(if a1<(List.length a2:Int) then(if 0≤a0 then(if a0<(List.length a2:Int) then(if 0≤a0 then(if a0<(List.length a2:Int) then(if 0≤a1 then(if a1<(List.length (List.set a2 (Int.toNat a0) (nth (.int .i64) a2 a1)):Int) then(some (List.set (List.set a2 (Int.toNat a0) (nth (.int .i64) a2 a1)) (Int.toNat a1) (nth (.int .i64) a2 a0))) else none) else none) else none) else none) else none) else none) else none) else none
def V0:SS:=⟨20,60,[],[(0,.row 3 8 (.int .i64))],[]⟩
def J6:aW:=aF G [] 245 [.own 0,vI,vI] [(0,.row 3 8 (.int .i64))] 60 V0 [0] (.bE (u3 jW))
theorem xV:hS J6:=
 cO (hR []) hz aI Tryz.call245 Tryz.func245
def nP:Nat→Int×Ze→Option (cQ Ze Ze):=aK fun acK ⟨c,d⟩=>if(decide ((aZ (Int.tdiv (aZ (c -(1:Int))) (2:Int)))=c))=true then(some (.brk d)) else(Option.bind (kZ c (aZ (Int.tdiv (aZ (c -(1:Int))) (2:Int))) d) fun⟨a,b⟩=>if(!a)=true then(some (.brk b)) else(Option.bind (jW (aZ (Int.tdiv (aZ (c -(1:Int))) (2:Int))) c b) fun y5=>acK (aZ (Int.tdiv (aZ (c -(1:Int))) (2:Int)),y5)))
def xW(a0:Int)(a1:Ze):Option Ze:=
 aG (U:=Ze) (nP gD (a0,a1)) fun v1=>some v1
def Px:SS:=⟨23,63,[],[(0,.var iJ (.cons (.own 1) .nil)),(1,.row 3 8 (.int .i64))],[]⟩
def V1:SS:=⟨23,63,[(0,.iface 272 (pP 0)),tI 1],[(0,.var iJ (.cons (.own 1) .nil)),(1,.row 3 8 (.int .i64))],[]⟩
def J7:aW:=aF G [] 209 [.iface 272 (pP 0),vI] [(0,.var iJ (.cons (.own 1) .nil)),(1,.row 3 8 (.int .i64))] 63 Px [0,1] (.bE (u2 xW))
theorem J8:hS J7:=
 cO ⟨[hE 1 [cB 0 [(0,1)] []],hE 2 [cB 1 [(0,1)] []]],[],[(0,Px)],[(0,⟨V1,fun _=>gD⟩)],[],[]⟩ (hq DA (hq xV hz)) aI Tryz.call209 Tryz.func209
def xX(a0:Int)(a1:Ze):Option Ze:=
 if(List.length a1+List.length [a0])*8≤aE then(some (a1++[a0])) else none
def V2:SS:=⟨22,62,[],[(0,.var iJ (.cons (.own 35) .nil)),(35,.row 3 8 (.int .i64))],[]⟩
def J9:aW:=aF G [] 243 [pP 0,.iface 3 vI] [(0,.var iJ (.cons (.own 1) .nil)),(1,.row 3 8 (.int .i64))] 62 V2 [0,35] (.bE (u2 xX))
theorem Ka:hS J9:=
 cO (hR []) hz aI Tryz.call243 Tryz.func243
def pd(a0:Int)(a1:Ze):Option Ze:=
 Option.bind (xX a0 a1) fun y1=>Option.bind (pb y1) fun⟨a,b⟩=>Option.bind (xW (aZ (a -(1:Int))) b) fun y3=>some y3
def V3:SS:=⟨12,52,[],[(0,.var iJ (.cons (.own 22) .nil)),(22,.row 3 8 (.int .i64))],[]⟩
def DB:aW:=aF G [] 149 [.iface 272 (pP 0),.iface 3 vI] [(0,.var iJ (.cons (.own 1) .nil)),(1,.row 3 8 (.int .i64))] 52 V3 [0,22] (.bE (u2 pd))
theorem Kb:hS DB:=
 cO (hR [hE 0 [cB 0 [(0,0),(1,1)] [(35,22)]],hE 1 [cB 1 [(0,22)] [],cB 2 [(0,0),(1,22)] []]]) (hq Ka (hq Dz (hq J8 hz))) aI Tryz.call149 Tryz.func149
def f150(a0:Ze):ZM:=
 some (List.length a0:Int)
def V4:SS:=⟨5,45,[tI 2],[],[]⟩
def Py:aW:=aF G [.tmp 2] 150 [.val (.slice 8 (.int .i64))] [] 45 V4 [] (.bE (u1 f150))
theorem V5:hS Py:=
 cO (hR []) hz aI Tryz.call150 Tryz.func150
def k7:Nat→Int×Int×Int×Ze→Option (cQ (Int×Int×Ze) (Bool×Ze)):=aK fun acK ⟨q,o,p,r⟩=>aG (U:=Int×Int×Int×Int×Ze) (Option.bind (α:=Bool) (if(decide (o≤(aZ ((aZ ((2:Int)*p))+(1:Int)))))=true then(some true) else(some (decide ((aZ ((aZ ((2:Int)*p))+(1:Int)))<(0:Int))))) fun v5=>if v5=true then(bZ (some (.brk (q,p,r)))) else(some (.brk (q,o,p,aZ ((aZ ((2:Int)*p))+(1:Int)),r)))) fun⟨d,b,e,a,c⟩=>aG (U:=Int×Int×Int×Int×Ze) (if(decide ((aZ (a+1))<b))=true then(Option.bind (kZ (aZ (a+1)) a c) fun⟨f,g⟩=>if f=true then(some (.brk (d,b,e,aZ (a+1),g))) else(some (.brk (d,b,e,a,g)))) else(some (.brk (d,b,e,a,c)))) fun⟨k,l,i,h,j⟩=>Option.bind (kZ h i j) fun⟨m,n⟩=>if(!m)=true then(some (.brk (k,i,n))) else(Option.bind (jW i h n) fun y9=>acK (k,l,h,y9))
def sm(a0:Int)(a1:Int)(a2:Ze):Option (Bool×Ze):=
 aG (U:=Int×Int×Ze) (k7 gD (a0,a1,a0,a2)) fun⟨a,b,c⟩=>some (decide (a<b),c)
def V6:SS:=⟨48,88,[(0,.iface 272 (pP 0)),tI 1,tI 2,tI 7,tI 8],[(0,.var iJ (.cons (.own 1) .nil)),(1,.row 3 8 (.int .i64))],[]⟩
def V7:SS:=⟨48,88,[(0,.iface 272 (pP 0)),tI 1,tI 2,tI 7,tI 9],[(0,.var iJ (.cons (.own 1) .nil)),(1,.row 3 8 (.int .i64))],[]⟩
def V8:SS:=⟨48,88,[tI 1,tI 7],[(0,.var iJ (.cons (.own 1) .nil)),(1,.row 3 8 (.int .i64))],[]⟩
def V9:SS:=⟨48,88,[(0,.iface 272 (pP 0)),tI 1,tI 2,tI 7],[(0,.var iJ (.cons (.own 1) .nil)),(1,.row 3 8 (.int .i64))],[]⟩
def Wa:SS:=⟨48,88,[(6,vB)],[(0,.var iJ (.cons (.own 1) .nil)),(1,.row 3 8 (.int .i64))],[]⟩
def Kc:aW:=aF G [.tmp 6] 210 [.iface 272 (pP 0),vI,vI] [(0,.var iJ (.cons (.own 1) .nil)),(1,.row 3 8 (.int .i64))] 88 Wa [0,1] (.bE (u3 sm))
theorem Kd:hS Kc:=
 cO ⟨[hD 3 21 [],hE 6 [cB 0 [(0,1)] []],hE 8 [cB 0 [(0,1)] []],hE 9 [cB 1 [(0,1)] []]],[(4,V6),(8,V7),(11,V8)],[],[(2,⟨V9,fun _=>gD⟩)],[],[]⟩ (hq DA (hq xV hz)) aI Tryz.call210 Tryz.func210
def sn(a0:Ze):Option (Int×Ze):=
 if 0≤(aZ ((List.length a0:Int) -(1:Int))) then(if(aZ ((List.length a0:Int) -(1:Int)))<(List.length a0:Int) then(if 0≤(aZ ((List.length a0:Int) -(1:Int))) then(if(aZ ((List.length a0:Int) -(1:Int)))≤(List.length a0:Int) then(some (nth (.int .i64) a0 (aZ ((List.length a0:Int) -(1:Int))),List.take ((Int.toNat (aZ ((List.length a0:Int) -(1:Int)))) -0) a0)) else none) else none) else none) else none
def Wb:SS:=⟨32,72,[(2,.iface 3 vI)],[(0,.var iJ (.cons (.own 48) .nil)),(48,.row 3 8 (.int .i64))],[]⟩
def Ke:aW:=aF G [.tmp 2] 242 [pP 0] [(0,.var iJ (.cons (.own 1) .nil)),(1,.row 3 8 (.int .i64))] 72 Wb [0,48] (.bE (u1 sn))
theorem Kf:hS Ke:=
 cO (hR [(2,⟨[],[],[],none,[],[],[.np 0 [.cw 0] 48]⟩)]) hz aI Tryz.call242 Tryz.func242
def pg(a0:Ze):Option (Int×Ze):=
 Option.bind (pb a0) fun⟨a,b⟩=>Option.bind (jW (0:Int) (aZ (a -(1:Int))) b) fun y2=>Option.bind (sm (0:Int) (aZ (a -(1:Int))) y2) fun⟨_,c⟩=>Option.bind (sn c) fun⟨d,e⟩=>some (d,e)
def Wc:SS:=⟨15,55,[(2,.iface 3 vI)],[(0,.var iJ (.cons (.own 30) .nil)),(30,.row 3 8 (.int .i64))],[]⟩
def DC:aW:=aF G [.tmp 2] 151 [.iface 272 (pP 0)] [(0,.var iJ (.cons (.own 1) .nil)),(1,.row 3 8 (.int .i64))] 55 Wc [0,30] (.bE (u1 pg))
theorem Kg:hS DC:=
 cO (hR [hE 1 [cB 0 [(0,1)] []],hE 2 [cB 1 [(0,1)] []],hE 3 [cB 2 [(0,0),(1,1)] []],hE 4 [cB 3 [(0,0),(1,1)] [(48,30)]]]) (hq Dz (hq xV (hq Kd (hq Kf hz)))) aI Tryz.call151 Tryz.func151
end Go.Proofs.YtgdcjlldafmomaaGreat
