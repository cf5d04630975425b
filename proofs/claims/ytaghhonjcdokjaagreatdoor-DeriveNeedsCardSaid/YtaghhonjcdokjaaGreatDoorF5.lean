/- part -/
import Derived.Test.YtaghhonjcdokjaaGreatDoorF4
noncomputable section
namespace Go.Proofs.YtaghhonjcdokjaaGreatDoor
open Go.Ax
def f68(a0:iA)(a1:iA):Zo:=
 Option.bind (α:=Bool) (if(decide (a0.1=a1.1))=true then(if(decide (a0.2.1=a1.2.1))=true then(Option.bind (f129 a0.2.2.1 a1.2.2.1) fun y1=>if y1=true then(Option.bind (f130 a0.2.2.2.1 a1.2.2.2.1) fun y2=>if y2=true then(Option.bind (f131 a0.2.2.2.2.1 a1.2.2.2.2.1) fun y3=>some y3) else(some false)) else(some false)) else(some false)) else(some false)) fun v4=>some v4
def Yq:SS:=⟨38,78,[(4,vB)],[],[]⟩
def c68:aX:=aE G [.tmp 4] 68 [.val bQ,.val bQ] [] 78 Yq [] (.bC (u2 f68))
theorem x68:hS c68:=
 cO (hR [hD 1 4 [cA 0,cA 1,cA 2]]) (hq acN (hq acQ (hq acT hz))) aH Tryz.call68 Tryz.func68
def G6:Nat→Zi×Zi×ZD→Zx:=aM fun ahA ⟨d,c,b,a⟩=>if(decide (a<b))=true then(if 0≤a then(if a<(List.length c:Int) then(if 0≤a then(if a<(List.length d:Int) then(Option.bind (f68 (nth bQ c a) (nth bQ d a)) fun y4=>if(!y4)=true then(cw (some false)) else(ahA (d,c,b,bB (a+1)))) else none) else none) else none) else none) else(some (.brk ()))
def Da(a0:Zi)(a1:Zi):Zo:=
 if(!decide ((List.length a0:Int)=(List.length a1:Int)))=true then(some false) else(aI (U:=Unit) (G6 (Int.toNat (List.length a0:Int)+1) (a1,a0,(List.length a0:Int),0)) fun _=>some true)
def Yr:SS:=⟨32,72,[(1,.val (.slice 96 bQ)),(2,.func 68 .nil .nil),(15,.val (.slice 96 bQ)),tI 16,tI 17],[],[]⟩
def QP:aX:=aE G [.tmp 6] 67 [.val (.slice 96 bQ),.val (.slice 96 bQ),.func 68 .nil .nil] [] 72 NV [] (.bC (u2 Da))
theorem QQ:hS QP:=
 cO ⟨[hA 7 0],[(10,NU)],[],[(4,⟨Yr,fun u2=>Int.toNat u2.2.2.1+1⟩)],[],[]⟩ (hq x68 hz) aH Tryz.call67 Tryz.func67
def Md:Nat→Zq×Zq×ZD→Zx:=aM fun ahA ⟨c,d,b,a⟩=>if(decide (a<b))=true then(if 0≤a then(if a<(List.length c:Int) then(if 0≤a then(if a<(List.length d:Int) then(if(!aY aS (nth aS c a) (nth aS d a))=true then(cw (some false)) else(ahA (c,d,b,bB (a+1)))) else none) else none) else none) else none) else(some (.brk ()))
def f132(a0:Zq)(a1:Zq):Zo:=
 if(!decide ((List.length a0:Int)=(List.length a1:Int)))=true then(some false) else(aI (U:=Unit) (Md (Int.toNat (List.length a0:Int)+1) (a0,a1,(List.length a0:Int),0)) fun _=>some true)
def Ys:aX:=aE G [.tmp 4] 132 [.val (.slice 56 aS),.val (.slice 56 aS)] [] 66 Bt [] (.bC (u2 f132))
theorem Yt:hS Ys:=
 cO ⟨[],[(9,Bs)],[],[(4,⟨T9,fun u2=>Int.toNat u2.2.2.1+1⟩)],[],[]⟩ hz aH Tryz.call132 Tryz.func132
def f70(a0:qR)(a1:qR):Zo:=
 Option.bind (α:=Bool) (if(decide (a0.1=a1.1))=true then(if(decide (a0.2.1=a1.2.1))=true then(if(decide (a0.2.2.1=a1.2.2.1))=true then(if(decide (a0.2.2.2.1=a1.2.2.2.1))=true then(Option.bind (f132 a0.2.2.2.2.1 a1.2.2.2.2.1) fun y1=>some y1) else(some false)) else(some false)) else(some false)) else(some false)) fun v2=>some v2
def Yu:SS:=⟨38,78,[(4,vB)],[],[]⟩
def c70:aX:=aE G [.tmp 4] 70 [.val fA,.val fA] [] 78 Yu [] (.bC (u2 f70))
theorem x70:hS c70:=
 cO (hR [hD 1 4 [cA 0]]) (hq Yt hz) aH Tryz.call70 Tryz.func70
def G7:Nat→ZC×ZC×ZD→Zx:=aM fun ahA ⟨d,c,b,a⟩=>if(decide (a<b))=true then(if 0≤a then(if a<(List.length c:Int) then(if 0≤a then(if a<(List.length d:Int) then(Option.bind (f70 (nth fA c a) (nth fA d a)) fun y4=>if(!y4)=true then(cw (some false)) else(ahA (d,c,b,bB (a+1)))) else none) else none) else none) else none) else(some (.brk ()))
def Db(a0:ZC)(a1:ZC):Zo:=
 if(!decide ((List.length a0:Int)=(List.length a1:Int)))=true then(some false) else(aI (U:=Unit) (G7 (Int.toNat (List.length a0:Int)+1) (a1,a0,(List.length a0:Int),0)) fun _=>some true)
def Yv:SS:=⟨32,72,[(1,.val (.slice 72 fA)),(2,.func 70 .nil .nil),(15,.val (.slice 72 fA)),tI 16,tI 17],[],[]⟩
def QR:aX:=aE G [.tmp 6] 69 [.val (.slice 72 fA),.val (.slice 72 fA),.func 70 .nil .nil] [] 72 NV [] (.bC (u2 Db))
theorem QS:hS QR:=
 cO ⟨[hA 7 0],[(10,NU)],[],[(4,⟨Yv,fun u2=>Int.toNat u2.2.2.1+1⟩)],[],[]⟩ (hq x70 hz) aH Tryz.call69 Tryz.func69
def Me:Nat→List oM×List oM×ZD→Zx:=aM fun ahA ⟨c,d,b,a⟩=>if(decide (a<b))=true then(if 0≤a then(if a<(List.length c:Int) then(if 0≤a then(if a<(List.length d:Int) then(if(!aY eQ (nth eQ c a) (nth eQ d a))=true then(cw (some false)) else(ahA (c,d,b,bB (a+1)))) else none) else none) else none) else none) else(some (.brk ()))
def f133(a0:List oM)(a1:List oM):Zo:=
 if(!decide ((List.length a0:Int)=(List.length a1:Int)))=true then(some false) else(aI (U:=Unit) (Me (Int.toNat (List.length a0:Int)+1) (a0,a1,(List.length a0:Int),0)) fun _=>some true)
def Yw:SS:=⟨26,66,[(0,.val (.slice 48 eQ)),(1,.val (.slice 48 eQ)),tI 12,tI 13],[],[]⟩
def Yx:aX:=aE G [.tmp 4] 133 [.val (.slice 48 eQ),.val (.slice 48 eQ)] [] 66 Bt [] (.bC (u2 f133))
theorem Yy:hS Yx:=
 cO ⟨[],[(9,Bs)],[],[(4,⟨Yw,fun u2=>Int.toNat u2.2.2.1+1⟩)],[],[]⟩ hz aH Tryz.call133 Tryz.func133
def f72(a0:nU)(a1:nU):Zo:=
 Option.bind (α:=Bool) (if(decide (a0.1=a1.1))=true then(if(decide (a0.2.2.1=a1.2.2.1))=true then(Option.bind (f133 a0.2.1 a1.2.1) fun y1=>some y1) else(some false)) else(some false)) fun v2=>some v2
def Yz:SS:=⟨24,64,[(4,vB)],[],[]⟩
def c72:aX:=aE G [.tmp 4] 72 [.val dv,.val dv] [] 64 Yz [] (.bC (u2 f72))
theorem x72:hS c72:=
 cO (hR [hD 1 4 [cA 0]]) (hq Yy hz) aH Tryz.call72 Tryz.func72
def G8:Nat→Zv×Zv×ZD→Zx:=aM fun ahA ⟨d,c,b,a⟩=>if(decide (a<b))=true then(if 0≤a then(if a<(List.length c:Int) then(if 0≤a then(if a<(List.length d:Int) then(Option.bind (f72 (nth dv c a) (nth dv d a)) fun y4=>if(!y4)=true then(cw (some false)) else(ahA (d,c,b,bB (a+1)))) else none) else none) else none) else none) else(some (.brk ()))
def Dc(a0:Zv)(a1:Zv):Zo:=
 if(!decide ((List.length a0:Int)=(List.length a1:Int)))=true then(some false) else(aI (U:=Unit) (G8 (Int.toNat (List.length a0:Int)+1) (a1,a0,(List.length a0:Int),0)) fun _=>some true)
def YA:SS:=⟨32,72,[(1,.val (.slice 48 dv)),(2,.func 72 .nil .nil),(15,.val (.slice 48 dv)),tI 16,tI 17],[],[]⟩
def QT:aX:=aE G [.tmp 6] 71 [.val (.slice 48 dv),.val (.slice 48 dv),.func 72 .nil .nil] [] 72 NV [] (.bC (u2 Dc))
theorem QU:hS QT:=
 cO ⟨[hA 7 0],[(10,NU)],[],[(4,⟨YA,fun u2=>Int.toNat u2.2.2.1+1⟩)],[],[]⟩ (hq x72 hz) aH Tryz.call71 Tryz.func71
def f36(a0:cH)(a1:cH):Zo:=
 Option.bind (α:=Bool) (Option.bind (f63 a0.1 a1.1) fun y1=>if y1=true then(Option.bind (f64 a0.2.1 a1.2.1) fun y2=>if y2=true then(Option.bind (DL a0.2.2.1 a1.2.2.1) fun y3=>if y3=true then(Option.bind (Da a0.2.2.2.1 a1.2.2.2.1) fun y4=>if y4=true then(Option.bind (Db a0.2.2.2.2.1 a1.2.2.2.2.1) fun y5=>if y5=true then(Option.bind (Dc a0.2.2.2.2.2.1 a1.2.2.2.2.2.1) fun y6=>some y6) else(some false)) else(some false)) else(some false)) else(some false)) else(some false)) fun v7=>some v7
def YB:SS:=⟨45,85,[(4,vB)],[],[]⟩
def c36:aX:=aE G [.tmp 4] 36 [.val fW,.val fW] [] 85 YB [] (.bC (u2 f36))
theorem x36:hS c36:=
 cO (hR [hD 1 4 [cA 0,cA 1,cA 2,cA 3,cA 4,cA 5]]) (hq T8 (hq x64 (hq RE (hq QQ (hq QS (hq QU hz)))))) aH Tryz.call36 Tryz.func36
def f30(a0:cH):ZU:=
 Option.bind (f44 a0) fun⟨b,a⟩=>if(!decide (a=(0:Int)))=true then(some a) else(Option.bind (f36 b a0) fun y2=>if(!y2)=true then(some (160:Int)) else(some (0:Int)))
def YD:SS:=⟨16,56,[tI 2],[],[]⟩
def c30:aX:=aE G [.tmp 2] 30 [.val fW] [] 56 YD [] (.bC (u1 f30))
theorem x30:hS c30:=
 cO (hR [hA 1 0,hA 4 1]) (hq x44 (hq x36 hz)) aH Tryz.call30 Tryz.func30
def f104(a0:nU):Zo:=
 some (decide ((64:Int)<(List.length a0.2.1:Int)))
def YE:SS:=⟨7,47,[(2,vB)],[],[]⟩
def YF:aX:=aE G [.tmp 2] 104 [.val dv] [] 47 YE [] (.bC (u1 f104))
theorem YG:hS YF:=
 cO (hR []) hz aH Tryz.call104 Tryz.func104
def Dd:Nat→Zv×ZD→Option (cV Unit Int):=aM fun ahA ⟨c,b,a⟩=>if(decide (a<b))=true then(if 0≤a then(if a<(List.length c:Int) then(Option.bind (f104 (nth dv c a)) fun y4=>if y4=true then(cw (some a)) else(ahA (c,b,bB (a+1)))) else none) else none) else(some (.brk ()))
def yU(a0:Zv):ZU:=
 aI (U:=Unit) (Dd (Int.toNat (List.length a0:Int)+1) (a0,(List.length a0:Int),0)) fun _=>some (-1:Int)
def YH:SS:=⟨19,59,[],[],[]⟩
def YI:SS:=⟨19,59,[(0,.val (.slice 48 dv)),(1,.func 104 .nil .nil),tI 7,tI 8],[],[]⟩
def YJ:SS:=⟨19,59,[tI 4],[],[]⟩
def Mf:aX:=aE G [.tmp 4] 203 [.val (.slice 48 dv),.func 104 .nil .nil] [] 59 YJ [] (.bC (u1 yU))
theorem Mg:hS Mf:=
 cO ⟨[hA 4 0],[(7,YH)],[],[(2,⟨YI,fun u2=>Int.toNat u2.2.1+1⟩)],[],[]⟩ (hq YG hz) aH Tryz.call203 Tryz.func203
def tp(a0:Zv):Zo:=
 Option.bind (yU a0) fun y1=>some (decide ((0:Int)≤y1))
def Jv:SS:=⟨9,49,[(4,vB)],[],[]⟩
def Mh:aX:=aE G [.tmp 4] 103 [.val (.slice 48 dv),.func 104 .nil .nil] [] 49 Jv [] (.bC (u1 tp))
theorem Mi:hS Mh:=
 cO (hR [hA 1 0]) (hq Mg hz) aH Tryz.call103 Tryz.func103
def f48(a0:dB):Zo:=
 Option.bind (α:=Bool) (if(decide ((8:Int)<(List.length a0.1.1:Int)))=true then(some true) else(if(decide ((64:Int)<(List.length a0.1.2.1:Int)))=true then(some true) else(if(decide ((16:Int)<(List.length a0.1.2.2.1:Int)))=true then(some true) else(if(decide ((16:Int)<(List.length a0.1.2.2.2.1:Int)))=true then(some true) else(if(decide ((16:Int)<(List.length a0.1.2.2.2.2.1:Int)))=true then(some true) else(some (decide ((8:Int)<(List.length a0.1.2.2.2.2.2.1:Int))))))))) fun v1=>if v1=true then(some false) else(Option.bind (tp a0.1.2.2.2.2.2.1) fun y2=>some (!y2))
def YK:SS:=⟨48,88,[(2,vB)],[],[]⟩
def c48:aX:=aE G [.tmp 2] 48 [.val dr] [] 88 YK [] (.bC (u1 f48))
theorem x48:hS c48:=
 cO (hR [hD 1 42 [],hA 3 0]) (hq Mi hz) aH Tryz.call48 Tryz.func48
def f52(a0:dB)(a1:gv):Zo:=
 Option.bind (α:=Bool) (if(decide ((1:Int)≤a1.2.2.2.2.1))=true then(if(decide (a1.2.2.2.2.1≤(1099511627776:Int)))=true then(if(decide ((0:Int)≤a1.2.2.2.1))=true then(if(decide (a1.2.2.2.1<(List.length a0.1.2.1:Int)))=true then(if 0≤a1.2.2.2.1 then(if a1.2.2.2.1<(List.length a0.1.2.1:Int) then(some (decide ((nth aS a0.1.2.1 a1.2.2.2.1).2.2.2.2.1=(1:Int)))) else none) else none) else(some false)) else(some false)) else(some false)) else(some false)) fun v1=>some v1
def YL:SS:=⟨38,78,[(4,vB)],[],[]⟩
def c52:aX:=aE G [.tmp 4] 52 [.val dr,.val aS] [] 78 YL [] (.bC (u2 f52))
theorem x52:hS c52:=
 cO (hR [hD 1 4 []]) hz aH Tryz.call52 Tryz.func52
def pX(a0:gv)(a1:dB):Pu:=
 Option.bind (f52 a1 a0) fun y1=>some (!y1,a1)
def YM:SS:=⟨8,48,[(3,vB)],[(0,.var (.aP .func) (.dg 52 dr))],[]⟩
def Mj:aX:=aE G [.tmp 3] 111 [.val aS,pP 0] [(0,.var (.aP .func) (.dg 52 dr))] 48 YM [0] (.bC (u2 pX))
theorem Mk:hS Mj:=
 cO (hR [hA 1 0]) (hq x52 hz) aH Tryz.call111 Tryz.func111
def De:Nat→Zq×Int×B4→Option (cV dB B4):=aM fun ahA ⟨e,d,c,f⟩=>if(decide (c<d))=true then(if 0≤c then(if c<(List.length e:Int) then(Option.bind (pX (nth aS e c) f) fun⟨a,b⟩=>if a=true then(cw (some (c,b))) else(ahA (e,d,bB (c+1),b))) else none) else none) else(some (.brk f))
def yV(a0:Zq)(a1:dB):Option B4:=
 aI (U:=dB) (De (Int.toNat (List.length a0:Int)+1) (a0,(List.length a0:Int),0,a1)) fun v1=>some ((-1:Int),v1)
def YN:SS:=⟨19,59,[],[(0,.var (.aP .func) (.dg 52 dr))],[]⟩
def YO:SS:=⟨19,59,[(0,.val (.slice 56 aS)),(1,.func 111 .nil (.cons (pP 0) .nil)),tI 7,tI 8],[(0,.var (.aP .func) (.dg 52 dr))],[]⟩
def YP:SS:=⟨19,59,[tI 4],[(0,.var (.aP .func) (.dg 52 dr))],[]⟩
def Ml:aX:=aE G [.tmp 4] 207 [.val (.slice 56 aS),.func 111 .nil (.cons (pP 0) .nil)] [(0,.var (.aP .func) (.dg 52 dr))] 59 YP [0] (.bC (u2 yV))
theorem Mm:hS Ml:=
 cO ⟨[hE 4 [cB 0 [(0,0)] []]],[(7,YN)],[],[(2,⟨YO,fun u2=>Int.toNat u2.2.1+1⟩)],[],[]⟩ (hq Mk hz) aH Tryz.call207 Tryz.func207
def yW(a0:Zq)(a1:dB):Pu:=
 Option.bind (yV a0 a1) fun⟨a,b⟩=>some (decide ((0:Int)≤a),b)
def YQ:SS:=⟨9,49,[(4,vB)],[(0,.var (.aP .func) (.dg 52 dr))],[]⟩
def Mn:aX:=aE G [.tmp 4] 110 [.val (.slice 56 aS),.func 111 .nil (.cons (pP 0) .nil)] [(0,.var (.aP .func) (.dg 52 dr))] 49 YQ [0] (.bC (u2 yW))
theorem Mo:hS Mn:=
 cO (hR [hE 1 [cB 0 [(0,0)] []]]) (hq Mm hz) aH Tryz.call110 Tryz.func110
def yX(a0:Zq)(a1:dB):Zo:=
 Option.bind (yW a0 a1) fun⟨a,_⟩=>some (!a)
def QV:aX:=aE G [.tmp 4] 51 [.val (.slice 56 aS),.dg 52 dr] [] 49 Jv [] (.bC (u2 yX))
theorem QW:hS QV:=
 cO (hR [hE 1 [cB 0 [(0,19)] []]]) (hq Mo hz) aH Tryz.call51 Tryz.func51
def Mp:Option (List (Option Nat)):=
 some [none,some 238,some 239,some 240,some 241]
def YR:SS:=⟨2,42,[tP 0 16],[(16,.var (.fns 5) (.val (.fns 5)))],[]⟩
def Mq:aX:=aE G [.cell 0 344] 209 [] [] 42 YR [] (.bC (fun _=>Mp))
theorem Mr:hS Mq:=
 cO (hR []) hz aH Tryz.call209 Tryz.func209
def yY:Nat→Zn×Int×Int×List (Zd×Bool)→Zx:=aM fun ahA ⟨c,b,a,d⟩=>if(decide (a<b))=true then(if 0≤a then(if a<(List.length c:Int) then(if(bE .str .bool (nth .str c a) d)=true then(cw (some false)) else(if List.length d+1≤aG then(ahA (c,b,bB (a+1),bF .str (nth .str c a) true d)) else none)) else none) else none) else(some (.brk ()))
def f242(a0:Zn):Zo:=
 aI (U:=Unit) (yY (Int.toNat (List.length a0:Int)+1) (a0,(List.length a0:Int),0,([]:List (Zd×Bool)))) fun _=>some true
def YS:SS:=⟨21,61,[],[],[]⟩
def YT:SS:=⟨21,61,[(3,.mp 24),(9,.val (.slice 16 .str)),tI 10,tI 11],[(24,.map .str .bool)],[]⟩
def YU:SS:=⟨21,61,[(2,vB)],[],[]⟩
def YV:aX:=aE G [.tmp 2] 242 [.val (.slice 16 .str)] [] 61 YU [] (.bC (u1 f242))
theorem YW:hS YV:=
 cO ⟨[],[(9,YS)],[],[(3,⟨YT,fun u2=>Int.toNat u2.2.1+1⟩)],[],[]⟩ hz aH Tryz.call242 Tryz.func242
def f241(a0:dF)(_a1:Int):Zo:=
 Option.bind (α:=Bool) (if(decide (a0.2.1=(0:Int)))=true then(if(decide (a0.2.2.1=(bB ((List.length a0.2.2.2.2.2.1:Int) -(1:Int)))))=true then(if(decide (a0.2.2.2.2.1=(-1:Int)))=true then(if(decide ((1:Int)≤(List.length a0.2.2.2.2.2.1:Int)))=true then(if(decide ((List.length a0.2.2.2.2.2.1:Int)≤(16:Int)))=true then(Option.bind (f242 a0.2.2.2.2.2.1) fun y1=>some y1) else(some false)) else(some false)) else(some false)) else(some false)) else(some false)) fun v2=>some v2
def YX:SS:=⟨39,79,[(4,vB)],[],[]⟩
def YY:aX:=aE G [.tmp 4] 241 [.val fp,vI] [] 79 YX [] (.bC (u2 f241))
theorem YZ:hS YY:=
 cO (hR [hD 1 4 [cA 0]]) (hq YW hz) aH Tryz.call241 Tryz.func241
def f240(a0:dF)(_a1:Int):Zo:=
 Option.bind (α:=Bool) (if(decide (a0.2.1=(0:Int)))=true then(if(decide (a0.2.2.1=(4095:Int)))=true then(if(decide (a0.2.2.2.2.1=(-1:Int)))=true then(some (decide ((List.length a0.2.2.2.2.2.1:Int)=(0:Int)))) else(some false)) else(some false)) else(some false)) fun v1=>some v1
def TN:SS:=⟨24,64,[(4,vB)],[],[]⟩
def Y0:aX:=aE G [.tmp 4] 240 [.val fp,vI] [] 64 TN [] (.bC (u2 f240))
theorem Y1:hS Y0:=
 cO (hR [hD 1 4 []]) hz aH Tryz.call240 Tryz.func240
def f239(a0:dF)(_a1:Int):Zo:=
 Option.bind (α:=Bool) (if(decide (a0.2.1=(0:Int)))=true then(if(decide (a0.2.2.1=(1023:Int)))=true then(if(decide (a0.2.2.2.2.1=(-1:Int)))=true then(some (decide ((List.length a0.2.2.2.2.2.1:Int)=(0:Int)))) else(some false)) else(some false)) else(some false)) fun v1=>some v1
def Y2:aX:=aE G [.tmp 4] 239 [.val fp,vI] [] 64 TN [] (.bC (u2 f239))
theorem Y3:hS Y2:=
 cO (hR [hD 1 4 []]) hz aH Tryz.call239 Tryz.func239
def f238(a0:dF)(a1:Int):Zo:=
 Option.bind (α:=Bool) (if(decide ((0:Int)≤a0.2.1))=true then(if(decide (a0.2.1≤a0.2.2.1))=true then(if(decide (a0.2.2.1≤(1048576:Int)))=true then(if(decide ((-1:Int)≤a0.2.2.2.2.1))=true then(if(decide (a0.2.2.2.2.1<a1))=true then(some (decide ((List.length a0.2.2.2.2.2.1:Int)=(0:Int)))) else(some false)) else(some false)) else(some false)) else(some false)) else(some false)) fun v1=>some v1
def Y4:SS:=⟨37,77,[(4,vB)],[],[]⟩
def Y5:aX:=aE G [.tmp 4] 238 [.val fp,vI] [] 77 Y4 [] (.bC (u2 f238))
theorem Y6:hS Y5:=
 cO (hR [hD 1 4 []]) hz aH Tryz.call238 Tryz.func238
def f114(a0:dB)(a1:dF):Zo:=
 aI (U:=dB×dF) (Option.bind (α:=Bool) (if(decide (a1.1<(1:Int)))=true then(some true) else(some (decide ((4:Int)<a1.1)))) fun v2=>if v2=true then(cw (some false)) else(some (.brk (a0,a1)))) fun⟨b,a⟩=>if 0≤a.1 then(if a.1<(5:Int) then(if a.1=(0:Int) then none else(if a.1=(1:Int) then(Option.bind (f238 a (List.length b.1.2.1:Int)) fun y6=>some y6) else(if a.1=(2:Int) then(Option.bind (f239 a (List.length b.1.2.1:Int)) fun y5=>some y5) else(if a.1=(3:Int) then(Option.bind (f240 a (List.length b.1.2.1:Int)) fun y4=>some y4) else(if a.1=(4:Int) then(Option.bind (f241 a (List.length b.1.2.1:Int)) fun y3=>some y3) else none))))) else none) else none
def Y7:SS:=⟨23,63,[tP 2 18,tP 3 19],[(18,bV dr),(19,bV fp)],[]⟩
def Y8:SS:=⟨23,63,[(4,vB)],[],[]⟩
def Y9:aX:=aE G [.tmp 4] 114 [.val dr,.val fp] [] 63 Y8 [] (.bC (u2 f114))
theorem QX:hS Y9:=
 cO ⟨[hD 1 12 [],hE 3 [cA 0,⟨[1,2,3,4],[],[],[],[]⟩]],[(3,Y7)],[],[],[],[]⟩ (hq Mr (hq YZ (hq Y1 (hq Y3 (hq Y6 hz))))) aH Tryz.call114 Tryz.func114
def qY:Nat→ZA×Int×Int×AW×B4→Option (cV (ZA×Int×B4) (cV Unit Bool)):=aM fun rec9 ⟨c,d,e,b,a,f⟩=>if(decide (a<(4:Int)))=true then(if 0≤a then(if a<(4:Int) then(Option.bind (α:=Bool) (if(decide ((nth (.int .i64) b a)<(0:Int)))=true then(some true) else(some (decide ((9:Int)<(nth (.int .i64) b a))))) fun v10=>if v10=true then(cw (cw (some false))) else(rec9 (c,d,e,b,bB (a+1),f))) else none) else none) else(some (.brk (c,d,e,f)))
def yZ:Nat→ZA×Int×B4→Zx:=aM fun rec5 ⟨g,f,e,h⟩=>if(decide (e<f))=true then(aI (U:=ZA×Int×B4) (if 0≤e then(if e<(List.length g:Int) then(Option.bind (f114 h (nth bO g e).2.1) fun y7=>if(!y7)=true then(cw (cw (some false))) else(qY (Int.toNat (4:Int)+1) (g,f,e,(nth bO g e).2.2.1,0,h))) else none) else none) fun⟨a,b,c,d⟩=>rec5 (a,b,bB (c+1),d)) else(some (.brk ()))
def f54(a0:dB)(a1:lu):Zo:=
 aI (U:=dB×lu) (Option.bind (α:=Bool) (if(decide (a1.2.2.1<(0:Int)))=true then(some true) else(if(decide ((List.length a0.1.1:Int)≤a1.2.2.1))=true then(some true) else(if(decide (a1.2.2.2.1<(1:Int)))=true then(some true) else(if(decide ((255:Int)<a1.2.2.2.1))=true then(some true) else(if(decide ((List.length a1.2.2.2.2.1:Int)<(1:Int)))=true then(some true) else(if(decide ((12:Int)<(List.length a1.2.2.2.2.1:Int)))=true then(some true) else(if(0:Int)<(List.length a1.2.2.2.2.1:Int) then(some (!decide ((nth bO a1.2.2.2.2.1 (0:Int)).2.1.1=(3:Int)))) else none))))))) fun v2=>if v2=true then(cw (some false)) else(some (.brk (a0,a1)))) fun⟨b,a⟩=>aI (U:=Unit) (yZ (Int.toNat (List.length a.2.2.2.2.1:Int)+1) (a.2.2.2.2.1,(List.length a.2.2.2.2.1:Int),0,b)) fun _=>some true
def Z0:SS:=⟨77,117,[tP 2 18,tP 3 19],[(18,bV dr),(19,bV aU)],[]⟩
def TO:SS:=⟨77,117,[tP 2 18,(53,.val (.slice 120 bO)),tI 54,tI 55],[(18,bV dr)],[]⟩
def Z1:SS:=⟨77,117,[],[],[]⟩
def Z2:SS:=⟨77,117,[tP 2 18,(53,.val (.slice 120 bO)),tI 54,tI 55,(65,.val Cw),tI 66],[(18,bV dr)],[]⟩
def Z3:SS:=⟨77,117,[(4,vB)],[],[]⟩
def c54:aX:=aE G [.tmp 4] 54 [.val dr,.val aU] [] 117 Z3 [] (.bC (u2 f54))
theorem x54:hS c54:=
 cO ⟨[hD 1 51 [],hA 6 0,hD 11 74 []],[(3,Z0),(14,TO),(15,Z1)],[],[(4,⟨TO,fun u4=>Int.toNat u4.2.1+1⟩),(9,⟨Z2,fun _=>Int.toNat (4:Int)+1⟩)],[],[]⟩ (hq QX hz) aH Tryz.call54 Tryz.func54
def pY(a0:lu)(a1:dB):Pu:=
 Option.bind (f54 a1 a0) fun y1=>some (!y1,a1)
def Z4:SS:=⟨8,48,[(3,vB)],[(0,.var (.aP .func) (.dg 54 dr))],[]⟩
def Ms:aX:=aE G [.tmp 3] 113 [.val aU,pP 0] [(0,.var (.aP .func) (.dg 54 dr))] 48 Z4 [0] (.bC (u2 pY))
theorem Mt:hS Ms:=
 cO (hR [hA 1 0]) (hq x54 hz) aH Tryz.call113 Tryz.func113
def Df:Nat→Zj×Int×B4→Option (cV dB B4):=aM fun ahA ⟨e,d,c,f⟩=>if(decide (c<d))=true then(if 0≤c then(if c<(List.length e:Int) then(Option.bind (pY (nth aU e c) f) fun⟨a,b⟩=>if a=true then(cw (some (c,b))) else(ahA (e,d,bB (c+1),b))) else none) else none) else(some (.brk f))
def zb(a0:Zj)(a1:dB):Option B4:=
 aI (U:=dB) (Df (Int.toNat (List.length a0:Int)+1) (a0,(List.length a0:Int),0,a1)) fun v1=>some ((-1:Int),v1)
def Z5:SS:=⟨19,59,[],[(0,.var (.aP .func) (.dg 54 dr))],[]⟩
def Z6:SS:=⟨19,59,[(0,.val (.slice 96 aU)),(1,.func 113 .nil (.cons (pP 0) .nil)),tI 7,tI 8],[(0,.var (.aP .func) (.dg 54 dr))],[]⟩
def Z7:SS:=⟨19,59,[tI 4],[(0,.var (.aP .func) (.dg 54 dr))],[]⟩
def Mu:aX:=aE G [.tmp 4] 208 [.val (.slice 96 aU),.func 113 .nil (.cons (pP 0) .nil)] [(0,.var (.aP .func) (.dg 54 dr))] 59 Z7 [0] (.bC (u2 zb))
theorem Mv:hS Mu:=
 cO ⟨[hE 4 [cB 0 [(0,0)] []]],[(7,Z5)],[],[(2,⟨Z6,fun u2=>Int.toNat u2.2.1+1⟩)],[],[]⟩ (hq Mt hz) aH Tryz.call208 Tryz.func208
def zd(a0:Zj)(a1:dB):Pu:=
 Option.bind (zb a0 a1) fun⟨a,b⟩=>some (decide ((0:Int)≤a),b)
def Z8:SS:=⟨9,49,[(4,vB)],[(0,.var (.aP .func) (.dg 54 dr))],[]⟩
def Mw:aX:=aE G [.tmp 4] 112 [.val (.slice 96 aU),.func 113 .nil (.cons (pP 0) .nil)] [(0,.var (.aP .func) (.dg 54 dr))] 49 Z8 [0] (.bC (u2 zd))
theorem Mx:hS Mw:=
 cO (hR [hE 1 [cB 0 [(0,0)] []]]) (hq Mv hz) aH Tryz.call112 Tryz.func112
def ze(a0:Zj)(a1:dB):Zo:=
 Option.bind (zd a0 a1) fun⟨a,_⟩=>some (!a)
def QY:aX:=aE G [.tmp 4] 53 [.val (.slice 96 aU),.dg 54 dr] [] 49 Jv [] (.bC (u2 ze))
theorem QZ:hS QY:=
 cO (hR [hE 1 [cB 0 [(0,19)] []]]) (hq Mx hz) aH Tryz.call53 Tryz.func53
def f107(a0:dB)(a1:Int)(a2:Int):Option (Bool×dF):=
 aI (U:=Int×Int×dB×Int×Int×Int×Zd×Int) (Option.bind (α:=Bool) (if(decide (a1<(0:Int)))=true then(some true) else(if(decide ((List.length a0.1.2.2.1:Int)≤a1))=true then(some true) else(if(decide (a2<(0:Int)))=true then(some true) else(if 0≤a1 then(if a1<(List.length a0.1.2.2.1:Int) then(some (decide ((List.length (nth aU a0.1.2.2.1 a1).2.2.2.2.1:Int)≤a2))) else none) else none)))) fun v2=>if v2=true then(cw (some (false,0,0,0,[],0,([]:Zn),()))) else(some (.brk (a1,a2,a0,0,0,0,[],0)))) fun⟨a,c,b,_,_,_,_,_⟩=>if 0≤a then(if a<(List.length b.1.2.2.1:Int) then(if 0≤c then(if c<(List.length (nth aU b.1.2.2.1 a).2.2.2.2.1:Int) then(some (true,(nth bO (nth aU b.1.2.2.1 a).2.2.2.2.1 c).2.1)) else none) else none) else none) else none
def Z9:SS:=⟨46,86,[tI 1,tI 2,tP 3 19,tP 6 22],[(19,bV dr),(22,.var fp (.cons vI (.cons vI (.cons vI (.cons (.val .str) (.cons vI (.cons .aF .nil)))))))],[]⟩
def aaa:SS:=⟨46,86,[tP 6 22,(7,vB)],[(22,bV fp)],[]⟩
def aab:aX:=aE G [.cell 6 223,.tmp 7] 107 [.val dr,vI,vI] [] 86 aaa [] (.bC (u3 f107))
theorem Jw:hS aab:=
 cO ⟨[hD 1 33 []],[(3,Z9)],[],[],[],[]⟩ hz aH Tryz.call107 Tryz.func107
def f204(a0:fK)(a1:gv)(a2:Int):Option (Bool×dF):=
 aI (U:=fK×gv×Int×Int×Int×Zd×Int) (Option.bind (α:=Bool) (if(decide (a1.2.2.1<(0:Int)))=true then(some true) else(some (decide (a2≤a1.2.2.1)))) fun v2=>if v2=true then(cw (some (false,0,0,0,[],0,([]:Zn),()))) else(some (.brk (a0,a1,0,0,0,[],0)))) fun⟨b,a,_,_,_,_,_⟩=>if 0≤a.2.2.1 then(if a.2.2.1<(List.length b.2.1.2.2.1:Int) then(Option.bind (f107 b.1 (nth aL b.2.1.2.2.1 a.2.2.1).2.2.1 a.2.2.2.1) fun⟨c,d⟩=>some (c,d)) else none) else none
def aac:SS:=⟨33,73,[tP 3 19,tP 4 20,tP 6 22],[(19,bV mj),(20,bV aS),(22,.var fp (.cons vI (.cons vI (.cons vI (.cons (.val .str) (.cons vI (.cons .aF .nil)))))))],[]⟩
def aad:SS:=⟨33,73,[tP 6 22,(7,vB)],[(22,bV fp)],[]⟩
def aae:aX:=aE G [.cell 6 223,.tmp 7] 204 [.val mj,.val aS,vI] [] 73 aad [] (.bC (u3 f204))
theorem Q2:hS aae:=
 cO ⟨[hD 1 16 [],hA 3 0],[(3,aac)],[],[],[],[]⟩ (hq Jw hz) aH Tryz.call204 Tryz.func204
def tq:Nat→Zw×Int×Int×fK→Zx:=aM fun rec5 ⟨k,j,i,l⟩=>if(decide (i<j))=true then(if 0≤i then(if i<(List.length k:Int) then(aI (U:=Int×Zw×Int×Int×fK×sP) (Option.bind (α:=Bool) (if(decide ((nth aL k i).2.2.1<(0:Int)))=true then(some true) else(some (decide ((List.length l.1.1.2.2.1:Int)≤(nth aL k i).2.2.1)))) fun v7=>if v7=true then(cw (cw (some false))) else(some (.brk (i,k,j,i,l,nth aL k i)))) fun⟨f,b,c,d,e,a⟩=>if(decide (a.2.2.2.1.2.2.1=(-1:Int)))=true then(rec5 (b,c,bB (d+1),e)) else(Option.bind (f204 e a.2.2.2.1 f) fun⟨g,h⟩=>Option.bind (α:=Bool) (if(!g)=true then(some true) else(some (!decide (h.1=(3:Int))))) fun v9=>if v9=true then(cw (some false)) else(rec5 (b,c,bB (d+1),e)))) else none) else none) else(some (.brk ()))
def f105(a0:fK):Zo:=
 aI (U:=fK) (Option.bind (α:=Bool) (if(decide ((List.length a0.2.1.2.2.1:Int)<(1:Int)))=true then(some true) else(some (decide ((3:Int)<(List.length a0.2.1.2.2.1:Int))))) fun v2=>if v2=true then(cw (some false)) else(some (.brk a0))) fun v1=>aI (U:=Unit) (tq (Int.toNat (List.length v1.2.1.2.2.1:Int)+1) (v1.2.1.2.2.1,(List.length v1.2.1.2.2.1:Int),0,v1)) fun _=>some true
def aaf:SS:=⟨61,101,[tP 1 17],[(17,bV mj)],[]⟩
def aag:SS:=⟨61,101,[tP 1 17,tI 3,tP 4 20,(21,.val (.slice 96 aL)),tI 22,tI 23],[(17,bV mj),(20,bV aL)],[]⟩
def aah:SS:=⟨61,101,[],[],[]⟩
def aai:SS:=⟨61,101,[tP 1 17,(21,.val (.slice 96 aL)),tI 22,tI 23],[(17,bV mj)],[]⟩
def aaj:SS:=⟨61,101,[(2,vB)],[],[]⟩
def aak:aX:=aE G [.tmp 2] 105 [.val mj] [] 101 aaj [] (.bC (u1 f105))
theorem aal:hS aak:=
 cO ⟨[hD 1 18 [],hD 6 40 [],hA 9 0,hD 10 59 []],[(3,aaf),(8,aag),(13,aah)],[],[(4,⟨aai,fun u4=>Int.toNat u4.2.1+1⟩)],[],[]⟩ (hq Q2 hz) aH Tryz.call105 Tryz.func105
def f205(a0:gv):Zo:=
 Option.bind (α:=Bool) (if(decide (a0.2.2.1=(-1:Int)))=true then(if(decide ((0:Int)≤a0.2.2.2.2.1))=true then(some (decide (a0.2.2.2.2.1≤(1048576:Int)))) else(some false)) else(some false)) fun v1=>some v1
def aam:SS:=⟨16,56,[(2,vB)],[],[]⟩
def aan:aX:=aE G [.tmp 2] 205 [.val aS] [] 56 aam [] (.bC (u1 f205))
theorem TP:hS aan:=
 cO (hR [hD 1 2 []]) hz aH Tryz.call205 Tryz.func205
def f206(a0:dB)(a1:dF)(a2:dF):Zo:=
 aI (U:=dB×dF×dF) (if(!decide (a1.1=a2.1))=true then(cw (some false)) else(if(decide (a1.1=(4:Int)))=true then(Option.bind (f63 a1.2.2.2.2.2.1 a2.2.2.2.2.2.1) fun y2=>cw (some y2)) else(Option.bind (α:=Bool) (if(!decide (a1.1=(1:Int)))=true then(some true) else(if(decide (a1.2.2.2.2.1=(-1:Int)))=true then(some true) else(some (decide (a2.2.2.2.2.1=(-1:Int)))))) fun v3=>if v3=true then(cw (some (decide (a1.2.2.2.2.1=a2.2.2.2.2.1)))) else(some (.brk (a0,a1,a2)))))) fun⟨b,a,c⟩=>if 0≤a.2.2.2.2.1 then(if a.2.2.2.2.1<(List.length b.1.2.1:Int) then(if 0≤c.2.2.2.2.1 then(if c.2.2.2.2.1<(List.length b.1.2.1:Int) then(some (decide ((nth aS b.1.2.1 a.2.2.2.2.1).2.2.2.1=(nth aS b.1.2.1 c.2.2.2.2.1).2.2.2.1))) else none) else none) else none) else none
def aao:SS:=⟨58,98,[tP 3 19,tP 4 20,tP 5 21],[(19,bV dr),(20,bV fp),(21,bV fp)],[]⟩
def aap:SS:=⟨58,98,[(6,vB)],[],[]⟩
def aaq:aX:=aE G [.tmp 6] 206 [.val dr,.val fp,.val fp] [] 98 aap [] (.bC (u3 f206))
theorem aar:hS aaq:=
 cO ⟨[hA 4 0,hD 5 22 []],[(7,aao)],[],[],[],[]⟩ (hq T8 hz) aH Tryz.call206 Tryz.func206
def nI:Nat→Int×Int×fK×oL×Zq×List dF→Option (cV (fK×oL×List dF) Bool):=aM fun rec5 ⟨d,c,f,h,e,g⟩=>if(decide (c<d))=true then(if 0≤c then(if c<(List.length e:Int) then(Option.bind (f204 f (nth aS e c) (List.length f.2.1.2.2.1:Int)) fun⟨a,b⟩=>Option.bind (α:=Bool) (if(!a)=true then(Option.bind (f205 (nth aS e c)) fun y7=>some (!y7)) else(some false)) fun v8=>if v8=true then(cw (some false)) else(if a=true then(if(List.length g+List.length [b])*72≤aG then(rec5 (d,bB (c+1),f,h,e,g++[b])) else none) else(rec5 (d,bB (c+1),f,h,e,g)))) else none) else none) else(some (.brk (f,h,g)))
def mQ:Nat→Int×Int×oL×List dF→Zx:=aM fun rec14 ⟨b,a,d,c⟩=>if(decide (a<b))=true then(if 0≤a then(if a<(List.length c:Int) then(Option.bind (α:=Bool) (if(decide ((nth fp c a).1=(1:Int)))=true then(some true) else(some (decide ((nth fp c a).1=(2:Int))))) fun v15=>Option.bind (α:=Bool) (if(decide (d.1=(2:Int)))=true then(some (!v15)) else(if(decide (d.1=(3:Int)))=true then(some (!v15)) else(some false))) fun v16=>if v16=true then(cw (some false)) else(rec14 (b,bB (a+1),d,c))) else none) else none) else(some (.brk ()))
def f106(a0:fK)(a1:oL):Zo:=
 aI (U:=fK×oL) (Option.bind (α:=Bool) (if(decide (a1.1<(1:Int)))=true then(some true) else(some (decide ((4:Int)<a1.1)))) fun v2=>if v2=true then(cw (some false)) else(some (.brk (a0,a1)))) fun⟨b,a⟩=>aI (U:=fK×oL×List dF) (nI (Int.toNat (List.length [a.2.1,a.2.2.1]:Int)+1) ((List.length [a.2.1,a.2.2.1]:Int),0,b,a,[a.2.1,a.2.2.1],([]:List dF))) fun⟨d,e,c⟩=>aI (U:=oL×List dF) (Option.bind (α:=Bool) (if(decide ((List.length c:Int)=(0:Int)))=true then(some true) else(if(decide ((List.length c:Int)=(2:Int)))=true then(if(0:Int)<(List.length c:Int) then(if(1:Int)<(List.length c:Int) then(Option.bind (f206 d.1 (nth fp c (0:Int)) (nth fp c (1:Int))) fun y10=>some (!y10)) else none) else none) else(some false))) fun v11=>if v11=true then(cw (some false)) else(some (.brk (e,c)))) fun⟨g,f⟩=>aI (U:=Unit) (mQ (Int.toNat (List.length f:Int)+1) ((List.length f:Int),0,g,f)) fun _=>some true
def aas:SS:=⟨101,141,[tP 2 18,tP 3 19],[(18,bV mj),(19,bV aQ)],[]⟩
def aat:SS:=⟨101,141,[tP 2 18,tP 3 19,(5,.own 118)],[(18,bV mj),(19,bV aQ),(118,.row 223 72 fp)],[]⟩
def aau:SS:=⟨101,141,[tP 3 19,(5,.own 118)],[(19,bV aQ),(118,.row 223 72 fp)],[]⟩
def aav:SS:=⟨101,141,[],[],[]⟩
def aaw:SS:=⟨101,141,[tP 2 18,tP 3 19,(5,.own 117),(25,.own 41),tI 26,tI 27],[(18,bV mj),(19,bV aQ),(41,.row 111 56 aS),(117,.row 223 72 fp)],[]⟩
def aax:SS:=⟨101,141,[tP 3 19,(74,.own 118),tI 75,tI 76],[(19,bV aQ),(118,.row 223 72 fp)],[]⟩
def aay:SS:=⟨101,141,[(4,vB)],[],[]⟩
def aaz:aX:=aE G [.tmp 4] 106 [.val mj,.val aQ] [] 141 aay [] (.bC (u2 f106))
theorem aaA:hS aaz:=
 cO ⟨[hD 1 20 [],hA 7 0,hD 8 47 [cA 1],hD 13 73 [cA 2],hD 18 12 [],hD 19 99 []],[(3,aas),(13,aat),(15,aau),(22,aav)],[],[(5,⟨aaw,fun u4=>Int.toNat u4.1+1⟩),(16,⟨aax,fun KN=>Int.toNat KN.1+1⟩)],[],[]⟩ (hq Q2 (hq TP (hq aar hz))) aH Tryz.call106 Tryz.func106
def f108(a0:fK)(a1:dF)(a2:gv):Zo:=
 Option.bind (f205 a2) fun y1=>if y1=true then(Option.bind (α:=Bool) (if(decide (a1.2.1≤a2.2.2.2.2.1))=true then(some (decide (a2.2.2.2.2.1≤a1.2.2.1))) else(some false)) fun v2=>some v2) else(Option.bind (f204 a0 a2 (List.length a0.2.1.2.2.1:Int)) fun⟨a,b⟩=>Option.bind (α:=Bool) (if a=true then(if(decide (b.1=a1.1))=true then(if(decide (b.2.2.2.2.1=a1.2.2.2.2.1))=true then(Option.bind (f63 b.2.2.2.2.2.1 a1.2.2.2.2.2.1) fun y4=>if y4=true then(if(decide (a1.2.1≤b.2.1))=true then(if(decide (b.2.1≤a1.2.2.1))=true then(if(decide (a1.2.1≤b.2.2.1))=true then(some (decide (b.2.2.1≤a1.2.2.1))) else(some false)) else(some false)) else(some false)) else(some false)) else(some false)) else(some false)) else(some false)) fun v5=>some v5)
def aaB:SS:=⟨83,123,[(6,vB)],[],[]⟩
def aaC:aX:=aE G [.tmp 6] 108 [.val mj,.val fp,.val aS] [] 123 aaB [] (.bC (u3 f108))
theorem aaD:hS aaC:=
 cO (hR [hA 1 0,hD 2 6 [],hA 3 1,hD 4 6 [cA 2]]) (hq TP (hq Q2 (hq T8 hz))) aH Tryz.call108 Tryz.func108
def zf:Nat→Zf×Int×Int×Zu→Zx:=aM fun ahA ⟨c,b,a,d⟩=>if(decide (a<b))=true then(if 0≤a then(if a<(List.length c:Int) then(if(bE (.int .i64) .bool (nth (.int .i64) c a) d)=true then(cw (some false)) else(if List.length d+1≤aG then(ahA (c,b,bB (a+1),bF (.int .i64) (nth (.int .i64) c a) true d)) else none)) else none) else none) else(some (.brk ()))
def f109(a0:Zf):Zo:=
 aI (U:=Unit) (zf (Int.toNat (List.length a0:Int)+1) (a0,(List.length a0:Int),0,([]:Zu))) fun _=>some true
def aaE:SS:=⟨21,61,[],[],[]⟩
def aaF:SS:=⟨21,61,[(3,.mp 24),(9,.val (.slice 8 (.int .i64))),tI 10,tI 11],[(24,.map (.int .i64) .bool)],[]⟩
def aaG:SS:=⟨21,61,[(2,vB)],[],[]⟩
def aaH:aX:=aE G [.tmp 2] 109 [.val (.slice 8 (.int .i64))] [] 61 aaG [] (.bC (u1 f109))
theorem aaI:hS aaH:=
 cO ⟨[],[(9,aaE)],[],[(3,⟨aaF,fun u2=>Int.toNat u2.2.1+1⟩)],[],[]⟩ hz aH Tryz.call109 Tryz.func109
def qZ:Nat→Zz×Int×Int×fK→Option (cV fK Bool):=aM fun rec6 ⟨c,b,a,d⟩=>if(decide (a<b))=true then(if 0≤a then(if a<(List.length c:Int) then(Option.bind (f106 d (nth aQ c a)) fun y7=>if(!y7)=true then(cw (some false)) else(rec6 (c,b,bB (a+1),d))) else none) else none) else(some (.brk d))
def nJ:Nat→Int×ZB×Int×Int×fK×Zf→Option (cV Zf Bool):=aM fun rec12 ⟨g,e,d,c,f,h⟩=>if(decide (c<d))=true then(if 0≤c then(if c<(List.length e:Int) then(Option.bind (f107 f.1 g (nth aZ e c).2.1) fun⟨a,b⟩=>Option.bind (α:=Bool) (if(!a)=true then(some true) else(if(decide ((nth aZ e c).2.1=(0:Int)))=true then(some true) else(Option.bind (f108 f b (nth aZ e c).2.2.1) fun y14=>some (!y14)))) fun v15=>if v15=true then(cw (some false)) else(if(List.length h+List.length [(nth aZ e c).2.1])*8≤aG then(rec12 (g,e,d,bB (c+1),f,h++[(nth aZ e c).2.1])) else none)) else none) else none) else(some (.brk h))
def f50(a0:fK):Zo:=
 aI (U:=fK) (Option.bind (α:=Bool) (Option.bind (f105 a0) fun y2=>if(!y2)=true then(some true) else(some (decide ((8:Int)<(List.length a0.2.1.2.2.2.1:Int))))) fun v3=>if v3=true then(cw (some false)) else(some (.brk a0))) fun v1=>aI (U:=fK) (qZ (Int.toNat (List.length v1.2.1.2.2.2.1:Int)+1) (v1.2.1.2.2.2.1,(List.length v1.2.1.2.2.2.1:Int),0,v1)) fun v4=>aI (U:=Int×fK) (Option.bind (α:=Bool) (if(decide (v4.2.1.2.1<(0:Int)))=true then(some true) else(if(decide ((List.length v4.1.1.2.2.1:Int)≤v4.2.1.2.1))=true then(some true) else(if 0≤v4.2.1.2.1 then(if v4.2.1.2.1<(List.length v4.1.1.2.2.1:Int) then(some (!decide ((List.length v4.2.1.2.2.2.2.1:Int)=(bB ((List.length (nth aU v4.1.1.2.2.1 v4.2.1.2.1).2.2.2.2.1:Int) -(1:Int)))))) else none) else none))) fun v9=>if v9=true then(cw (some false)) else(some (.brk (v4.2.1.2.1,v4)))) fun⟨b,a⟩=>aI (U:=Zf) (nJ (Int.toNat (List.length a.2.1.2.2.2.2.1:Int)+1) (b,a.2.1.2.2.2.2.1,(List.length a.2.1.2.2.2.2.1:Int),0,a,([]:Zf))) fun v10=>Option.bind (f109 v10) fun y16=>some y16
def TQ:SS:=⟨105,145,[tP 1 17],[(17,bV mj)],[]⟩
def aaJ:SS:=⟨105,145,[tP 1 17,tI 5],[(17,bV mj)],[]⟩
def aaK:SS:=⟨105,145,[(6,.own 122)],[(122,.row 3 8 (.int .i64))],[]⟩
def aaL:SS:=⟨105,145,[tP 1 17,(23,.val (.slice 120 aQ)),tI 24,tI 25],[(17,bV mj)],[]⟩
def aaM:SS:=⟨105,145,[tP 1 17,tI 5,(6,.own 121),(67,.val (.slice 80 aZ)),tI 68,tI 69],[(17,bV mj),(121,.row 3 8 (.int .i64))],[]⟩
def aaN:SS:=⟨105,145,[(2,vB)],[],[]⟩
def c50:aX:=aE G [.tmp 2] 50 [.val mj] [] 145 aaN [] (.bC (u1 f50))
theorem x50:hS c50:=
 cO ⟨[hD 1 20 [cA 0],hA 6 1,hD 10 64 [],hA 16 2,hD 17 96 [cA 3],hA 21 4],[(3,TQ),(9,TQ),(12,aaJ),(21,aaK)],[],[(4,⟨aaL,fun u5=>Int.toNat u5.2.1+1⟩),(14,⟨aaM,fun ET=>Int.toNat ET.2.2.1+1⟩)],[],[]⟩ (hq aal (hq aaA (hq Jw (hq aaD (hq aaI hz))))) aH Tryz.call50 Tryz.func50
def Dg(a0:iA)(a1:dB):Zo:=
 Option.bind (f50 (a1,a0,())) fun y1=>some y1
def aaO:SS:=⟨8,48,[(3,vB)],[],[]⟩
def Q3:aX:=aE G [.tmp 3] 49 [.val bQ,.cI dr] [] 48 aaO [] (.bC (u2 Dg))
theorem Q4:hS Q3:=
 cO (hR [hA 1 0]) (hq x50 hz) aH Tryz.call49 Tryz.func49
def pZ(a0:iA)(a1:dB):Pu:=
 Option.bind (Dg a0 a1) fun y1=>some (!y1,a1)
def aaP:SS:=⟨8,48,[(3,vB)],[(0,.var (.aP .func) (.func 49 .nil (.cons (.cI dr) .nil)))],[]⟩
def My:aX:=aE G [.tmp 3] 116 [.val bQ,pP 0] [(0,.var (.aP .func) (.func 49 .nil (.cons (.cI dr) .nil)))] 48 aaP [0] (.bC (u2 pZ))
theorem Mz:hS My:=
 cO (hR [hA 1 0]) (hq Q4 hz) aH Tryz.call116 Tryz.func116
def Dh:Nat→Zi×Int×B4→Option (cV dB B4):=aM fun ahA ⟨e,d,c,f⟩=>if(decide (c<d))=true then(if 0≤c then(if c<(List.length e:Int) then(Option.bind (pZ (nth bQ e c) f) fun⟨a,b⟩=>if a=true then(cw (some (c,b))) else(ahA (e,d,bB (c+1),b))) else none) else none) else(some (.brk f))
def zg(a0:Zi)(a1:dB):Option B4:=
 aI (U:=dB) (Dh (Int.toNat (List.length a0:Int)+1) (a0,(List.length a0:Int),0,a1)) fun v1=>some ((-1:Int),v1)
def aaQ:SS:=⟨19,59,[],[(0,.var (.aP .func) (.func 49 .nil (.cons (.cI dr) .nil)))],[]⟩
def aaR:SS:=⟨19,59,[(0,.val (.slice 96 bQ)),(1,.func 116 .nil (.cons (pP 0) .nil)),tI 7,tI 8],[(0,.var (.aP .func) (.func 49 .nil (.cons (.cI dr) .nil)))],[]⟩
def aaS:SS:=⟨19,59,[tI 4],[(0,.var (.aP .func) (.func 49 .nil (.cons (.cI dr) .nil)))],[]⟩
def MA:aX:=aE G [.tmp 4] 210 [.val (.slice 96 bQ),.func 116 .nil (.cons (pP 0) .nil)] [(0,.var (.aP .func) (.func 49 .nil (.cons (.cI dr) .nil)))] 59 aaS [0] (.bC (u2 zg))
theorem MB:hS MA:=
 cO ⟨[hE 4 [cB 0 [(0,0)] []]],[(7,aaQ)],[],[(2,⟨aaR,fun u2=>Int.toNat u2.2.1+1⟩)],[],[]⟩ (hq Mz hz) aH Tryz.call210 Tryz.func210
def zh(a0:Zi)(a1:dB):Pu:=
 Option.bind (zg a0 a1) fun⟨a,b⟩=>some (decide ((0:Int)≤a),b)
def aaT:SS:=⟨9,49,[(4,vB)],[(0,.var (.aP .func) (.func 49 .nil (.cons (.cI dr) .nil)))],[]⟩
def MC:aX:=aE G [.tmp 4] 115 [.val (.slice 96 bQ),.func 116 .nil (.cons (pP 0) .nil)] [(0,.var (.aP .func) (.func 49 .nil (.cons (.cI dr) .nil)))] 49 aaT [0] (.bC (u2 zh))
theorem MD:hS MC:=
 cO (hR [hE 1 [cB 0 [(0,0)] []]]) (hq MB hz) aH Tryz.call115 Tryz.func115
def zi(a0:Zi)(a1:dB):Zo:=
 Option.bind (zh a0 a1) fun⟨a,_⟩=>some (!a)
def Q5:aX:=aE G [.tmp 4] 55 [.val (.slice 96 bQ),.func 49 .nil (.cons (.cI dr) .nil)] [] 49 Jv [] (.bC (u2 zi))
theorem Q6:hS Q5:=
 cO (hR [hE 1 [cB 0 [(0,19)] []]]) (hq MD hz) aH Tryz.call55 Tryz.func55
def rf:Nat→List oM×Int×Int×dB×nU→Option (cV nU Bool):=aM fun ahA ⟨d,c,b,e,f⟩=>if(decide (b<c))=true then(if 0≤b then(if b<(List.length d:Int) then(Option.bind (f107 e (nth eQ d b).2.2.1 (nth eQ d b).2.2.2.1) fun⟨a,_⟩=>if(!a)=true then(cw (some false)) else(ahA (d,c,bB (b+1),e,f))) else none) else none) else(some (.brk f))
def f57(a0:dB)(a1:nU):Zo:=
 aI (U:=nU) (rf (Int.toNat (List.length a1.2.1:Int)+1) (a1.2.1,(List.length a1.2.1:Int),0,a0,a1)) fun v1=>Option.bind (α:=Bool) (if(decide ((0:Int)≤v1.2.2.1))=true then(some (decide (v1.2.2.1≤(64:Int)))) else(some false)) fun v5=>some v5
def aaU:SS:=⟨36,76,[tP 3 19],[(19,bV dv)],[]⟩
def aaV:SS:=⟨36,76,[tP 2 18,tP 3 19,(10,.val (.slice 48 eQ)),tI 11,tI 12],[(18,bV dr),(19,bV dv)],[]⟩
def aaW:SS:=⟨36,76,[(4,vB)],[],[]⟩
def c57:aX:=aE G [.tmp 4] 57 [.val dr,.val dv] [] 76 aaW [] (.bC (u2 f57))
theorem x57:hS c57:=
 cO ⟨[hA 4 0,hD 8 4 []],[(8,aaU)],[],[(2,⟨aaV,fun u2=>Int.toNat u2.2.1+1⟩)],[],[]⟩ (hq Jw hz) aH Tryz.call57 Tryz.func57
def qa(a0:nU)(a1:dB):Pu:=
 Option.bind (f57 a1 a0) fun y1=>some (!y1,a1)
def aaX:SS:=⟨8,48,[(3,vB)],[(0,.var (.aP .func) (.dg 57 dr))],[]⟩
def ME:aX:=aE G [.tmp 3] 117 [.val dv,pP 0] [(0,.var (.aP .func) (.dg 57 dr))] 48 aaX [0] (.bC (u2 qa))
theorem MF:hS ME:=
 cO (hR [hA 1 0]) (hq x57 hz) aH Tryz.call117 Tryz.func117
def Di:Nat→Zv×Int×B4→Option (cV dB B4):=aM fun ahA ⟨e,d,c,f⟩=>if(decide (c<d))=true then(if 0≤c then(if c<(List.length e:Int) then(Option.bind (qa (nth dv e c) f) fun⟨a,b⟩=>if a=true then(cw (some (c,b))) else(ahA (e,d,bB (c+1),b))) else none) else none) else(some (.brk f))
def zj(a0:Zv)(a1:dB):Option B4:=
 aI (U:=dB) (Di (Int.toNat (List.length a0:Int)+1) (a0,(List.length a0:Int),0,a1)) fun v1=>some ((-1:Int),v1)
def aaY:SS:=⟨19,59,[],[(0,.var (.aP .func) (.dg 57 dr))],[]⟩
def aaZ:SS:=⟨19,59,[(0,.val (.slice 48 dv)),(1,.func 117 .nil (.cons (pP 0) .nil)),tI 7,tI 8],[(0,.var (.aP .func) (.dg 57 dr))],[]⟩
def aa0:SS:=⟨19,59,[tI 4],[(0,.var (.aP .func) (.dg 57 dr))],[]⟩
def MG:aX:=aE G [.tmp 4] 203 [.val (.slice 48 dv),.func 117 .nil (.cons (pP 0) .nil)] [(0,.var (.aP .func) (.dg 57 dr))] 59 aa0 [0] (.bC (u2 zj))
theorem MH:hS MG:=
 cO ⟨[hE 4 [cB 0 [(0,0)] []]],[(7,aaY)],[],[(2,⟨aaZ,fun u2=>Int.toNat u2.2.1+1⟩)],[],[]⟩ (hq MF hz) aH Tryz.call203 Tryz.func203
def zl(a0:Zv)(a1:dB):Pu:=
 Option.bind (zj a0 a1) fun⟨a,b⟩=>some (decide ((0:Int)≤a),b)
def aa1:SS:=⟨9,49,[(4,vB)],[(0,.var (.aP .func) (.dg 57 dr))],[]⟩
def MJ:aX:=aE G [.tmp 4] 103 [.val (.slice 48 dv),.func 117 .nil (.cons (pP 0) .nil)] [(0,.var (.aP .func) (.dg 57 dr))] 49 aa1 [0] (.bC (u2 zl))
theorem MK:hS MJ:=
 cO (hR [hE 1 [cB 0 [(0,0)] []]]) (hq MH hz) aH Tryz.call103 Tryz.func103
def zm(a0:Zv)(a1:dB):Zo:=
 Option.bind (zl a0 a1) fun⟨a,_⟩=>some (!a)
def Q7:aX:=aE G [.tmp 4] 56 [.val (.slice 48 dv),.dg 57 dr] [] 49 Jv [] (.bC (u2 zm))
theorem Q8:hS Q7:=
 cO (hR [hE 1 [cB 0 [(0,19)] []]]) (hq MK hz) aH Tryz.call56 Tryz.func56
def f31(a0:cH):ZU:=
 Option.bind (f48 (a0,())) fun y1=>if(!y1)=true then(some (2:Int)) else(Option.bind (α:=Bool) (Option.bind (yX a0.2.1 (a0,())) fun y2=>if(!y2)=true then(some true) else(Option.bind (ze a0.2.2.1 (a0,())) fun y3=>if(!y3)=true then(some true) else(Option.bind (zi a0.2.2.2.1 (a0,())) fun y4=>if(!y4)=true then(some true) else(Option.bind (zm a0.2.2.2.2.2.1 (a0,())) fun y5=>some (!y5))))) fun v6=>if v6=true then(some (120:Int)) else(some (0:Int)))
def aa2:SS:=⟨40,80,[tI 2],[],[]⟩
def c31:aX:=aE G [.tmp 2] 31 [.val fW] [] 80 aa2 [] (.bC (u1 f31))
theorem x31:hS c31:=
 cO (hR [hA 2 0,hD 5 39 [cA 1,cA 2,cA 3,cA 4]]) (hq x48 (hq QW (hq QZ (hq Q6 (hq Q8 hz))))) aH Tryz.call31 Tryz.func31
def f211(a0:Int)(a1:Int):Zo:=
 if 0≤a1 then(some (decide ((iO .and .u64 (Int.fdiv a0 (2^(min (Int.toNat a1) 64))) (1:Int))=(1:Int)))) else none
def aa3:SS:=⟨10,50,[(4,vB)],[],[]⟩
def aa4:aX:=aE G [.tmp 4] 211 [.val (.int .u64),vI] [] 50 aa3 [] (.bC (u2 f211))
theorem aa5:hS aa4:=
 cO (hR []) hz aH Tryz.call211 Tryz.func211
def nK:Nat→Int×Int×Zf×Int×Int×uI→Option (cV (Int×Int×uI) Bool):=aM fun ahA ⟨d,e,c,b,a,f⟩=>if(decide (a<b))=true then(if 0≤a then(if a<(List.length c:Int) then(Option.bind (α:=Bool) (if(decide ((nth (.int .i64) c a)<(0:Int)))=true then(some true) else(if(decide (d≤(nth (.int .i64) c a)))=true then(some true) else(Option.bind (f211 e (nth (.int .i64) c a)) fun y4=>some y4))) fun v5=>if v5=true then(cw (some false)) else(if 0≤(nth (.int .i64) c a) then(ahA (d,iO .or .u64 e (IntKind.u64.wrap ((1:Int)*2^(min (Int.toNat (nth (.int .i64) c a)) 64))),c,b,bB (a+1),f)) else none)) else none) else none) else(some (.brk (d,e,f)))
def f118(a0:uI)(a1:Int):Zo:=
 aI (U:=Int×Int×uI) (nK (Int.toNat (List.length a0.2.2.1:Int)+1) (a1,0,a0.2.2.1,(List.length a0.2.2.1:Int),0,a0)) fun⟨c,a,b⟩=>Option.bind (α:=Bool) (if(!decide (a=(0:Int)))=true then(if(decide ((0:Int)≤b.2.2.2.1))=true then(if(decide (b.2.2.2.1<c))=true then(Option.bind (f211 a b.2.2.2.1) fun y6=>some (!y6)) else(some false)) else(some false)) else(some false)) fun v7=>some v7
def aa6:SS:=⟨52,92,[tI 1,tP 2 18,(5,.val (.int .u64))],[(18,bV eP)],[]⟩
def aa7:SS:=⟨52,92,[tI 1,tP 2 18,(5,.val (.int .u64)),(9,.val (.slice 8 (.int .i64))),tI 10,tI 11],[(18,bV eP)],[]⟩
def aa8:SS:=⟨52,92,[(4,vB)],[],[]⟩
def aa9:aX:=aE G [.tmp 4] 118 [.val eP,vI] [] 92 aa8 [] (.bC (u2 f118))
theorem aba:hS aa9:=
 cO ⟨[hD 5 26 [cA 0],hD 9 4 [cA 0]],[(9,aa6)],[],[(3,⟨aa7,fun u2=>Int.toNat u2.2.2.2.1+1⟩)],[],[]⟩ (hq aa5 hz) aH Tryz.call118 Tryz.func118
def vn:Nat→CA×Int×Int×lu→Option (cV Unit Int):=aM fun rec5 ⟨c,b,a,d⟩=>if(decide (a<b))=true then(if 0≤a then(if a<(List.length c:Int) then(Option.bind (f118 (nth eP c a) (List.length d.2.2.2.2.1:Int)) fun y6=>if(!y6)=true then(cw (some (130:Int))) else(rec5 (c,b,bB (a+1),d))) else none) else none) else(some (.brk ()))
def f58(a0:lu):ZU:=
 aI (U:=lu) (Option.bind (α:=Bool) (if(decide ((List.length a0.2.2.2.2.1:Int)<(1:Int)))=true then(some true) else(if(decide ((12:Int)<(List.length a0.2.2.2.2.1:Int)))=true then(some true) else(some (decide ((12:Int)<(List.length a0.2.2.2.2.2.1:Int)))))) fun v2=>if v2=true then(cw (some (130:Int))) else(some (.brk a0))) fun v1=>aI (U:=Unit) (vn (Int.toNat (List.length v1.2.2.2.2.2.1:Int)+1) (v1.2.2.2.2.2.1,(List.length v1.2.2.2.2.2.1:Int),0,v1)) fun _=>some (0:Int)
def abb:SS:=⟨35,75,[tP 1 17],[(17,bV aU)],[]⟩
def abc:SS:=⟨35,75,[],[],[]⟩
def abd:SS:=⟨35,75,[tP 1 17,(22,.val (.slice 72 eP)),tI 23,tI 24],[(17,bV aU)],[]⟩
def abe:SS:=⟨35,75,[tI 2],[],[]⟩
def c58:aX:=aE G [.tmp 2] 58 [.val aU] [] 75 abe [] (.bC (u1 f58))
theorem x58:hS c58:=
 cO ⟨[hD 1 20 [],hA 6 0],[(3,abb),(9,abc)],[],[(4,⟨abd,fun u4=>Int.toNat u4.2.1+1⟩)],[],[]⟩ (hq aba hz) aH Tryz.call58 Tryz.func58
def Dj:Nat→Zj×ZD→Option (cV Unit Int):=aM fun ahA ⟨c,b,a⟩=>if(decide (a<b))=true then(if 0≤a then(if a<(List.length c:Int) then(Option.bind (f58 (nth aU c a)) fun y4=>if(!decide (y4=(0:Int)))=true then(cw (some y4)) else(ahA (c,b,bB (a+1)))) else none) else none) else(some (.brk ()))
def f32(a0:cH):ZU:=
 aI (U:=Unit) (Dj (Int.toNat (List.length a0.2.2.1:Int)+1) (a0.2.2.1,(List.length a0.2.2.1:Int),0)) fun _=>some (0:Int)
def abf:SS:=⟨19,59,[],[],[]⟩
def abg:SS:=⟨19,59,[(7,.val (.slice 96 aU)),tI 8,tI 9],[],[]⟩
def abh:SS:=⟨19,59,[tI 2],[],[]⟩
def c32:aX:=aE G [.tmp 2] 32 [.val fW] [] 59 abh [] (.bC (u1 f32))
theorem x32:hS c32:=
 cO ⟨[hA 4 0],[(8,abf)],[],[(2,⟨abg,fun u2=>Int.toNat u2.2.1+1⟩)],[],[]⟩ (hq x58 hz) aH Tryz.call32 Tryz.func32
def vo(a0:Int)(a1:Int)(a2:ZO):Option (Bool×ZO):=
 Option.bind (α:=Bool) (if(decide ((0:Int)≤a1))=true then(some (decide (a1<a0))) else(some false)) fun v1=>some (v1,a2)
def abi:SS:=⟨13,53,[(4,vB)],[(0,.pmap (.int .i64) (.map (.int .i64) .bool) 0)],[]⟩
def Q9:aX:=aE G [.tmp 4] 18 [.cons vI (.cons (.mp 0) .nil),vI] [(0,.pmap (.int .i64) (.map (.int .i64) .bool) 0)] 53 abi [0] (.bC (u3 vo))
theorem Ra:hS Q9:=
 cO (hR [hD 1 4 []]) hz aH Tryz.call18 Tryz.func18
def nL:Nat→Zi×Int×Int×Zw×Int×Int×Int×iA×ZO→Option (cV (Zi×Int×Int×Int×ZO) (cV (Int×ZO) (Int×jf))):=aM fun rec8 ⟨i,j,k,e,d,c,f,h,g⟩=>if(decide (c<d))=true then(if 0≤c then(if c<(List.length e:Int) then(Option.bind (vo f (nth aL e c).2.2.1 g) fun⟨a,b⟩=>if(!a)=true then(cw (cw (some (140,0,(none:Option ZO),())))) else(if de (.int .i64) h.2.1 b=true then(if aY (.int .i64) h.2.1 h.2.1=true then(if List.length (bK (bE (.int .i64) (.map (.int .i64) .bool) h.2.1 b))+1≤aG then(rec8 (i,j,k,e,d,bB (c+1),f,h,bF (.int .i64) h.2.1 (some (bF (.int .i64) (nth aL e c).2.2.1 true (bK (bE (.int .i64) (.map (.int .i64) .bool) h.2.1 b)))) b)) else none) else none) else none)) else none) else none) else(some (.brk (i,j,k,f,g)))
def ri:Nat→Zi×Int×Int×Int×ZO→Option (cV (Int×ZO) (Int×jf)):=aM fun ahA ⟨p,o,n,q,r⟩=>if(decide (n<o))=true then(aI (U:=Zi×Int×Int×Int×ZO) (if 0≤n then(if n<(List.length p:Int) then(Option.bind (vo q (nth bQ p n).2.1 r) fun⟨a,b⟩=>if(!a)=true then(cw (cw (some (140,0,(none:Option ZO),())))) else(aI (U:=Zi×Int×Int×Int×iA×ZO) (if(!(de (.int .i64) (nth bQ p n).2.1 b))=true then(if de (.int .i64) (nth bQ p n).2.1 b=false then(if aY (.int .i64) (nth bQ p n).2.1 (nth bQ p n).2.1=true then(if List.length b+1≤aG then(some (.brk (p,o,n,q,nth bQ p n,bF (.int .i64) (nth bQ p n).2.1 (some ([]:Zu)) (bF (.int .i64) (nth bQ p n).2.1 (Ty.aC (.map (.int .i64) .bool)) b)))) else none) else none) else none) else(some (.brk (p,o,n,q,nth bQ p n,b)))) fun⟨d,e,f,g,c,h⟩=>nL (Int.toNat (List.length c.2.2.1:Int)+1) (d,e,f,c.2.2.1,(List.length c.2.2.1:Int),0,g,c,h))) else none) else none) fun⟨i,j,k,l,m⟩=>ahA (i,j,bB (k+1),l,m)) else(some (.brk (q,r)))
def f17(a0:cH):Option (Int×jf):=
 aI (U:=Int×ZO) (ri (Int.toNat (List.length a0.2.2.2.1:Int)+1) (a0.2.2.2.1,(List.length a0.2.2.2.1:Int),0,(List.length a0.2.2.1:Int),([]:ZO))) fun⟨a,b⟩=>some (0,a,some b,())
def abj:SS:=⟨60,100,[tP 2 18,tP 5 21,(14,.val (.slice 96 bQ)),tI 15,tI 16],[(18,.var xe (.cons vI (.cons (.mp 27) .nil))),(21,bV bQ),(27,.pmap (.int .i64) (.map (.int .i64) .bool) 0)],[]⟩
def TR:SS:=⟨60,100,[tP 2 18,(14,.val (.slice 96 bQ)),tI 15,tI 16],[(18,.var xe (.cons vI (.cons (.mp 27) .nil))),(27,.pmap (.int .i64) (.map (.int .i64) .bool) 0)],[]⟩
def abk:SS:=⟨60,100,[tP 2 18],[(18,.var xe (.cons vI (.cons (.mp 27) .nil))),(27,.pmap (.int .i64) (.map (.int .i64) .bool) 0)],[]⟩
def abl:SS:=⟨60,100,[tP 2 18,tP 5 21,(14,.val (.slice 96 bQ)),tI 15,tI 16,(38,.val (.slice 96 aL)),tI 39,tI 40],[(18,.var xe (.cons vI (.cons (.mp 27) .nil))),(21,bV bQ),(27,.pmap (.int .i64) (.map (.int .i64) .bool) 0)],[]⟩
def abm:SS:=⟨60,100,[tP 2 18,tI 3],[(18,bV xe)],[]⟩
def c17:aX:=aE G [.cell 2 75,.tmp 3] 17 [.val fW] [] 100 abm [] (.bC (u1 f17))
theorem x17:hS c17:=
 cO ⟨[(2,⟨[.KM 27 0],[],[],none,[],[],[]⟩),hE 5 [cB 0 [(0,27)] []],(8,⟨[],[],[],none,[],[.map 0 27 0 (.c 5 [.cF 1])],[.mz 27]⟩),hE 12 [cB 0 [(0,27)] []],(14,⟨[],[],[],none,[],[.map 1 27 76 (.c 5 [.cF 1])],[.mz 27]⟩),(17,⟨[.H4 27],[],[],none,[],[],[]⟩)],[(9,abj),(16,TR),(17,abk)],[],[(3,⟨TR,fun u2=>Int.toNat u2.2.1+1⟩),(10,⟨abl,fun u7=>Int.toNat u7.2.2.2.2.1+1⟩)],[],[]⟩ (hq Ra hz) aH Tryz.call17 Tryz.func17
def Dk(a0:jf):Option jf:=
 some a0
def abn:SS:=⟨4,44,[(2,.func 121 .nil (.cons (pP 17) .nil))],[(17,bV xe)],[]⟩
def Rb:aX:=aE G [.tmp 2] 62 [.val xe] [] 44 abn [17] (.bC (u1 Dk))
theorem Rc:hS Rb:=
 cO (hR []) hz aH Tryz.call62 Tryz.func62
def oW:Nat→Int×Int×Int×jf×ZJ×Zu→Option (cV (Int×Int×jf×ZJ) (cV ZJ ZJ)):=aM fun rec6 ⟨f,b,c,d,e,a⟩=>if List.isEmpty a=true then(some (.brk (b,c,d,e))) else GI a fun x7 l8=>if 0≤x7.1 then(if x7.1<(List.length e:Int) then(if 0≤x7.1 then(if Int.toNat x7.1=(Int.toNat x7.1) then(if(List.length (List.getD e (Int.toNat x7.1) [])+List.length [f])*8≤aG then(if 0≤x7.1 then(if Int.toNat x7.1=(Int.toNat x7.1) then(rec6 (f,b,c,d,List.set e (Int.toNat x7.1) ((List.getD e (Int.toNat x7.1) [])++[f]),l8)) else none) else none) else none) else none) else none) else none) else none
def oX:Nat→Int×Int×jf×ZJ→Option (cV ZJ ZJ):=aM fun ahA ⟨f,e,g,h⟩=>if(decide (e<f))=true then(aI (U:=Int×Int×jf×ZJ) (oW (List.length (bK (bE (.int .i64) (.map (.int .i64) .bool) e (bK g.2.1)))+1) (e,f,e,g,h,bK (bE (.int .i64) (.map (.int .i64) .bool) e (bK g.2.1)))) fun⟨a,b,c,d⟩=>ahA (a,bB (b+1),c,d)) else(some (.brk h))
def f22(a0:jf):Option ZJ:=
 if 0≤a0.1 then(if a0.1≤a0.1 then(if a0.1*(24:Int)≤(aG:Int) then(aI (U:=ZJ) (oX (Int.toNat a0.1+1) (a0.1,0,a0,List.replicate (Int.toNat a0.1) [])) fun v1=>some v1) else none) else none) else none
def TS:SS:=⟨35,75,[tP 1 17,(3,.own 24),tI 10,tI 11],[(17,bV xe),(24,.da 30 24 (.slice 8 (.int .i64)) 3)],[]⟩
def abo:SS:=⟨35,75,[(3,.own 24)],[(24,.da 30 24 (.slice 8 (.int .i64)) 3)],[]⟩
def abp:SS:=⟨35,75,[tP 1 17,(3,.own 24),tI 4,tI 10,tI 11,tP 18 34],[(17,bV xe),(24,.da 30 24 (.slice 8 (.int .i64)) 3),(34,.mf (.int .i64) .bool)],[]⟩
def abq:SS:=⟨35,75,[(2,.val (.slice 24 (.slice 8 (.int .i64))))],[],[]⟩
def c22:aX:=aE G [.tmp 2] 22 [.val xe] [] 75 abq [] (.bC (u1 f22))
theorem x22:hS c22:=
 cO ⟨[(8,⟨[],[],[],none,[],[.row 24 51 (.t 5)],[.pz 24]⟩),(10,⟨[.H4 24],[],[],none,[],[],[]⟩)],[(9,TS),(10,abo)],[],[(3,⟨TS,fun u2=>Int.toNat u2.1+1⟩),(6,⟨abp,fun u5=>List.length u5.2.2.2.2.2+1⟩)],[],[]⟩ hz aH Tryz.call22 Tryz.func22
def qb(a0:Zf):Option (Int×Zf):=
 some ((List.length a0:Int),a0)
def abr:SS:=⟨5,45,[tI 2],[(0,.row 3 8 (.int .i64))],[]⟩
def ML:aX:=aE G [.tmp 2] 123 [.own 0] [(0,.row 3 8 (.int .i64))] 45 abr [0] (.bC (u1 qb))
theorem Fo:hS ML:=
 cO (hR []) hz aH Tryz.call123 Tryz.func123
def lE(a0:Int)(a1:Int)(a2:Zf):Option (Bool×Zf):=
 if 0≤a0 then(if a0<(List.length a2:Int) then(if 0≤a1 then(if a1<(List.length a2:Int) then(some (decide ((nth (.int .i64) a2 a0)<(nth (.int .i64) a2 a1)),a2)) else none) else none) else none) else none
def abt:SS:=⟨16,56,[(6,vB)],[(0,.row 3 8 (.int .i64))],[]⟩
def MM:aX:=aE G [.tmp 6] 275 [.own 0,vI,vI] [(0,.row 3 8 (.int .i64))] 56 abt [0] (.bC (u3 lE))
theorem Fp:hS MM:=
 cO (hR []) hz aH Tryz.call275 Tryz.func275
def j8(a0:Int)(a1:Int)(a2:Zf):Option Zf:=
 if 0≤a1 then(if a1<(List.length a2:Int) then(if 0≤a0 then(if a0<(List.length a2:Int) then(if 0≤a0 then(if a0<(List.length a2:Int) then(if 0≤a1 then(if a1<(List.length (List.set a2 (Int.toNat a0) (nth (.int .i64) a2 a1)):Int) then(some (List.set (List.set a2 (Int.toNat a0) (nth (.int .i64) a2 a1)) (Int.toNat a1) (nth (.int .i64) a2 a0))) else none) else none) else none) else none) else none) else none) else none) else none
def abu:SS:=⟨20,60,[],[(0,.row 3 8 (.int .i64))],[]⟩
def MN:aX:=aE G [] 279 [.own 0,vI,vI] [(0,.row 3 8 (.int .i64))] 60 abu [0] (.bC (u3 j8))
theorem zn:hS MN:=
 cO (hR []) hz aH Tryz.call279 Tryz.func279
def oY:Nat→Int×Zf→Option (cV Zf Zf):=aM fun ahA ⟨c,d⟩=>if(decide ((bB (Int.tdiv (bB (c -(1:Int))) (2:Int)))=c))=true then(some (.brk d)) else(Option.bind (lE c (bB (Int.tdiv (bB (c -(1:Int))) (2:Int))) d) fun⟨a,b⟩=>if(!a)=true then(some (.brk b)) else(Option.bind (j8 (bB (Int.tdiv (bB (c -(1:Int))) (2:Int))) c b) fun y5=>ahA (bB (Int.tdiv (bB (c -(1:Int))) (2:Int)),y5)))
def zo(a0:Int)(a1:Zf):Option Zf:=
 aI (U:=Zf) (oY gn (a0,a1)) fun v1=>some v1
def TT:SS:=⟨23,63,[],[(0,.var jj (.cons (.own 1) .nil)),(1,.row 3 8 (.int .i64))],[]⟩
def abv:SS:=⟨23,63,[(0,.iface 242 (pP 0)),tI 1],[(0,.var jj (.cons (.own 1) .nil)),(1,.row 3 8 (.int .i64))],[]⟩
def MO:aX:=aE G [] 212 [.iface 242 (pP 0),vI] [(0,.var jj (.cons (.own 1) .nil)),(1,.row 3 8 (.int .i64))] 63 TT [0,1] (.bC (u2 zo))
theorem MP:hS MO:=
 cO ⟨[hE 1 [cB 0 [(0,1)] []],hE 2 [cB 1 [(0,1)] []]],[],[(0,TT)],[(0,⟨abv,fun _=>gn⟩)],[],[]⟩ (hq Fp (hq zn hz)) aH Tryz.call212 Tryz.func212
def zp(a0:Int)(a1:Zf):Option Zf:=
 if(List.length a1+List.length [a0])*8≤aG then(some (a1++[a0])) else none
def abw:SS:=⟨22,62,[],[(0,.var jj (.cons (.own 35) .nil)),(35,.row 3 8 (.int .i64))],[]⟩
def MQ:aX:=aE G [] 277 [pP 0,.iface 3 vI] [(0,.var jj (.cons (.own 1) .nil)),(1,.row 3 8 (.int .i64))] 62 abw [0,35] (.bC (u2 zp))
theorem MR:hS MQ:=
 cO (hR []) hz aH Tryz.call277 Tryz.func277
def qc(a0:Int)(a1:Zf):Option Zf:=
 Option.bind (zp a0 a1) fun y1=>Option.bind (qb y1) fun⟨a,b⟩=>Option.bind (zo (bB (a -(1:Int))) b) fun y3=>some y3
def abx:SS:=⟨12,52,[],[(0,.var jj (.cons (.own 22) .nil)),(22,.row 3 8 (.int .i64))],[]⟩
def Fq:aX:=aE G [] 122 [.iface 242 (pP 0),.iface 3 vI] [(0,.var jj (.cons (.own 1) .nil)),(1,.row 3 8 (.int .i64))] 52 abx [0,22] (.bC (u2 qc))
theorem MT:hS Fq:=
 cO (hR [hE 0 [cB 0 [(0,0),(1,1)] [(35,22)]],hE 1 [cB 1 [(0,22)] [],cB 2 [(0,0),(1,22)] []]]) (hq MR (hq Fo (hq MP hz))) aH Tryz.call122 Tryz.func122
def f123(a0:Zf):ZU:=
 some (List.length a0:Int)
def aby:SS:=⟨5,45,[tI 2],[],[]⟩
def TU:aX:=aE G [.tmp 2] 123 [.val (.slice 8 (.int .i64))] [] 45 aby [] (.bC (u1 f123))
theorem abz:hS TU:=
 cO (hR []) hz aH Tryz.call123 Tryz.func123
end Go.Proofs.YtaghhonjcdokjaaGreatDoor
