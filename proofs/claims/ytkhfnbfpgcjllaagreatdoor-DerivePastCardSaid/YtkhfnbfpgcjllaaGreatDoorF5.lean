/- part -/
import Derived.Test.YtkhfnbfpgcjllaaGreatDoorF4
noncomputable section
namespace Go.Proofs.YtkhfnbfpgcjllaaGreatDoor
open Go.Ax
def He:Nat→Zl×Zl×ZP→Zu:=aL fun aoK ⟨d,c,b,a⟩=>if(decide (a<b))=true then(if 0≤a then(if a<(List.length c:Int) then(if 0≤a then(if a<(List.length d:Int) then(Option.bind (Pq (nth bW c a) (nth bW d a)) fun y4=>if(!y4)=true then(cU (some false)) else(aoK (d,c,b,aV (a+1)))) else none) else none) else none) else none) else(some (.aX ()))
def B1(a0:Zl)(a1:Zl):Zm:=
 if(!decide ((List.length a0:Int)=(List.length a1:Int)))=true then(some false) else(aI (U:=Unit) (He (Int.toNat (List.length a0:Int)+1) (a1,a0,(List.length a0:Int),0)) fun _=>some true)
def adq:SS:=⟨32,72,[(1,.val (.slice 96 bW)),(2,.func 102 .nil .nil),(15,.val (.slice 96 bW)),tI 16,tI 17],[],[]⟩
def PE:bG:=aG G [.tmp 6] 101 [.val (.slice 96 bW),.val (.slice 96 bW),.func 102 .nil .nil] [] 72 Uj [] (.bY (u2 B1))
theorem PG:hS PE:=
 cO ⟨[hA 7 0],[(10,Ui)],[],[(4,⟨adq,fun u2=>Int.toNat u2.2.2.1+1⟩)],[],[]⟩ (hq alJ hz) aJ Tryz.call101 Tryz.func101
def PH:Nat→Zv×Zv×ZP→Zu:=aL fun aoK ⟨c,d,b,a⟩=>if(decide (a<b))=true then(if 0≤a then(if a<(List.length c:Int) then(if 0≤a then(if a<(List.length d:Int) then(if(!bN aZ (nth aZ c a) (nth aZ d a))=true then(cU (some false)) else(aoK (c,d,b,aV (a+1)))) else none) else none) else none) else none) else(some (.aX ()))
def Va(a0:Zv)(a1:Zv):Zm:=
 if(!decide ((List.length a0:Int)=(List.length a1:Int)))=true then(some false) else(aI (U:=Unit) (PH (Int.toNat (List.length a0:Int)+1) (a0,a1,(List.length a0:Int),0)) fun _=>some true)
def adr:bG:=aG G [.tmp 4] 166 [.val (.slice 56 aZ),.val (.slice 56 aZ)] [] 66 Gs [] (.bY (u2 Va))
theorem ads:hS adr:=
 cO ⟨[],[(9,Gr)],[],[(4,⟨abL,fun u2=>Int.toNat u2.2.2.1+1⟩)],[],[]⟩ hz aJ Tryz.call166 Tryz.func166
def Mu(a0:wz)(a1:wz):Zm:=
 Option.bind (α:=Bool) (if(decide (a0.1=a1.1))=true then(if(decide (a0.2.1=a1.2.1))=true then(if(decide (a0.2.2.1=a1.2.2.1))=true then(if(decide (a0.2.2.2.1=a1.2.2.2.1))=true then(Option.bind (Va a0.2.2.2.2.1 a1.2.2.2.2.1) fun y1=>some y1) else(some false)) else(some false)) else(some false)) else(some false)) fun v2=>some v2
def adt:SS:=⟨38,78,[(4,vB)],[],[]⟩
def adu:bG:=aG G [.tmp 4] 104 [.val iN,.val iN] [] 78 adt [] (.bY (u2 Mu))
theorem adv:hS adu:=
 cO (hR [hD 1 4 [cA 0]]) (hq ads hz) aJ Tryz.call104 Tryz.func104
def Hf:Nat→ZB×ZB×ZP→Zu:=aL fun aoK ⟨d,c,b,a⟩=>if(decide (a<b))=true then(if 0≤a then(if a<(List.length c:Int) then(if 0≤a then(if a<(List.length d:Int) then(Option.bind (Mu (nth iN c a) (nth iN d a)) fun y4=>if(!y4)=true then(cU (some false)) else(aoK (d,c,b,aV (a+1)))) else none) else none) else none) else none) else(some (.aX ()))
def B2(a0:ZB)(a1:ZB):Zm:=
 if(!decide ((List.length a0:Int)=(List.length a1:Int)))=true then(some false) else(aI (U:=Unit) (Hf (Int.toNat (List.length a0:Int)+1) (a1,a0,(List.length a0:Int),0)) fun _=>some true)
def adw:SS:=⟨32,72,[(1,.val (.slice 72 iN)),(2,.func 104 .nil .nil),(15,.val (.slice 72 iN)),tI 16,tI 17],[],[]⟩
def PI:bG:=aG G [.tmp 6] 103 [.val (.slice 72 iN),.val (.slice 72 iN),.func 104 .nil .nil] [] 72 Uj [] (.bY (u2 B2))
theorem PJ:hS PI:=
 cO ⟨[hA 7 0],[(10,Ui)],[],[(4,⟨adw,fun u2=>Int.toNat u2.2.2.1+1⟩)],[],[]⟩ (hq adv hz) aJ Tryz.call103 Tryz.func103
def PK:Nat→List mZ×List mZ×ZP→Zu:=aL fun aoK ⟨c,d,b,a⟩=>if(decide (a<b))=true then(if 0≤a then(if a<(List.length c:Int) then(if 0≤a then(if a<(List.length d:Int) then(if(!bN iE (nth iE c a) (nth iE d a))=true then(cU (some false)) else(aoK (c,d,b,aV (a+1)))) else none) else none) else none) else none) else(some (.aX ()))
def Vb(a0:List mZ)(a1:List mZ):Zm:=
 if(!decide ((List.length a0:Int)=(List.length a1:Int)))=true then(some false) else(aI (U:=Unit) (PK (Int.toNat (List.length a0:Int)+1) (a0,a1,(List.length a0:Int),0)) fun _=>some true)
def adx:SS:=⟨26,66,[(0,.val (.slice 48 iE)),(1,.val (.slice 48 iE)),tI 12,tI 13],[],[]⟩
def ady:bG:=aG G [.tmp 4] 167 [.val (.slice 48 iE),.val (.slice 48 iE)] [] 66 Gs [] (.bY (u2 Vb))
theorem adz:hS ady:=
 cO ⟨[],[(9,Gr)],[],[(4,⟨adx,fun u2=>Int.toNat u2.2.2.1+1⟩)],[],[]⟩ hz aJ Tryz.call167 Tryz.func167
def Mv(a0:sY)(a1:sY):Zm:=
 Option.bind (α:=Bool) (if(decide (a0.1=a1.1))=true then(if(decide (a0.2.2.1=a1.2.2.1))=true then(Option.bind (Vb a0.2.1 a1.2.1) fun y1=>some y1) else(some false)) else(some false)) fun v2=>some v2
def adA:SS:=⟨24,64,[(4,vB)],[],[]⟩
def adB:bG:=aG G [.tmp 4] 106 [.val fj,.val fj] [] 64 adA [] (.bY (u2 Mv))
theorem adC:hS adB:=
 cO (hR [hD 1 4 [cA 0]]) (hq adz hz) aJ Tryz.call106 Tryz.func106
def Hg:Nat→Zy×Zy×ZP→Zu:=aL fun aoK ⟨d,c,b,a⟩=>if(decide (a<b))=true then(if 0≤a then(if a<(List.length c:Int) then(if 0≤a then(if a<(List.length d:Int) then(Option.bind (Mv (nth fj c a) (nth fj d a)) fun y4=>if(!y4)=true then(cU (some false)) else(aoK (d,c,b,aV (a+1)))) else none) else none) else none) else none) else(some (.aX ()))
def B3(a0:Zy)(a1:Zy):Zm:=
 if(!decide ((List.length a0:Int)=(List.length a1:Int)))=true then(some false) else(aI (U:=Unit) (Hg (Int.toNat (List.length a0:Int)+1) (a1,a0,(List.length a0:Int),0)) fun _=>some true)
def adD:SS:=⟨32,72,[(1,.val (.slice 48 fj)),(2,.func 106 .nil .nil),(15,.val (.slice 48 fj)),tI 16,tI 17],[],[]⟩
def PN:bG:=aG G [.tmp 6] 105 [.val (.slice 48 fj),.val (.slice 48 fj),.func 106 .nil .nil] [] 72 Uj [] (.bY (u2 B3))
theorem PO:hS PN:=
 cO ⟨[hA 7 0],[(10,Ui)],[],[(4,⟨adD,fun u2=>Int.toNat u2.2.2.1+1⟩)],[],[]⟩ (hq adC hz) aJ Tryz.call105 Tryz.func105
def Yn(a0:bD)(a1:bD):Zm:=
 Option.bind (α:=Bool) (Option.bind (UP a0.1 a1.1) fun y1=>if y1=true then(Option.bind (f98 a0.2.1 a1.2.1) fun y2=>if y2=true then(Option.bind (Jo a0.2.2.1 a1.2.2.1) fun y3=>if y3=true then(Option.bind (B1 a0.2.2.2.1 a1.2.2.2.1) fun y4=>if y4=true then(Option.bind (B2 a0.2.2.2.2.1 a1.2.2.2.2.1) fun y5=>if y5=true then(Option.bind (B3 a0.2.2.2.2.2.1 a1.2.2.2.2.2.1) fun y6=>some y6) else(some false)) else(some false)) else(some false)) else(some false)) else(some false)) fun v7=>some v7
def adE:SS:=⟨45,85,[(4,vB)],[],[]⟩
def c60:bG:=aG G [.tmp 4] 60 [.val eN,.val eN] [] 85 adE [] (.bY (u2 Yn))
theorem x60:hS c60:=
 cO (hR [hD 1 4 [cA 0,cA 1,cA 2,cA 3,cA 4,cA 5]]) (hq x97 (hq x98 (hq XC (hq PG (hq PJ (hq PO hz)))))) aJ Tryz.call60 Tryz.func60
def f54(a0:bD):ZW:=
 Option.bind (f69 a0) fun⟨b,a⟩=>if(!decide (a=(0:Int)))=true then(some a) else(Option.bind (Yn b a0) fun y2=>if(!y2)=true then(some (160:Int)) else(some (0:Int)))
def adF:SS:=⟨16,56,[tI 2],[],[]⟩
def c54:bG:=aG G [.tmp 2] 54 [.val eN] [] 56 adF [] (.bY (u1 f54))
theorem x54:hS c54:=
 cO (hR [hA 1 0,hA 4 1]) (hq x69 (hq x60 hz)) aJ Tryz.call54 Tryz.func54
def Vc(a0:sY):Zm:=
 some (decide ((64:Int)<(List.length a0.2.1:Int)))
def adG:SS:=⟨7,47,[(2,vB)],[],[]⟩
def adH:bG:=aG G [.tmp 2] 137 [.val fj] [] 47 adG [] (.bY (u1 Vc))
theorem adI:hS adH:=
 cO (hR []) hz aJ Tryz.call137 Tryz.func137
def Hh:Nat→Zy×ZP→Option (dR Unit Int):=aL fun aoK ⟨c,b,a⟩=>if(decide (a<b))=true then(if 0≤a then(if a<(List.length c:Int) then(Option.bind (Vc (nth fj c a)) fun y4=>if y4=true then(cU (some a)) else(aoK (c,b,aV (a+1)))) else none) else none) else(some (.aX ()))
def B4(a0:Zy):ZW:=
 aI (U:=Unit) (Hh (Int.toNat (List.length a0:Int)+1) (a0,(List.length a0:Int),0)) fun _=>some (-1:Int)
def adJ:SS:=⟨19,59,[],[],[]⟩
def adK:SS:=⟨19,59,[(0,.val (.slice 48 fj)),(1,.func 137 .nil .nil),tI 7,tI 8],[],[]⟩
def adL:SS:=⟨19,59,[tI 4],[],[]⟩
def PQ:bG:=aG G [.tmp 4] 221 [.val (.slice 48 fj),.func 137 .nil .nil] [] 59 adL [] (.bY (u1 B4))
theorem PR:hS PQ:=
 cO ⟨[hA 4 0],[(7,adJ)],[],[(2,⟨adK,fun u2=>Int.toNat u2.2.1+1⟩)],[],[]⟩ (hq adI hz) aJ Tryz.call221 Tryz.func221
def xN(a0:Zy):Zm:=
 Option.bind (B4 a0) fun y1=>some (decide ((0:Int)≤y1))
def Mw:SS:=⟨9,49,[(4,vB)],[],[]⟩
def PT:bG:=aG G [.tmp 4] 136 [.val (.slice 48 fj),.func 137 .nil .nil] [] 49 Mw [] (.bY (u1 xN))
theorem PU:hS PT:=
 cO (hR [hA 1 0]) (hq PR hz) aJ Tryz.call136 Tryz.func136
def f80(a0:kN):Zm:=
 Option.bind (α:=Bool) (if(decide ((8:Int)<(List.length a0.1.1:Int)))=true then(some true) else(if(decide ((64:Int)<(List.length a0.1.2.1:Int)))=true then(some true) else(if(decide ((16:Int)<(List.length a0.1.2.2.1:Int)))=true then(some true) else(if(decide ((16:Int)<(List.length a0.1.2.2.2.1:Int)))=true then(some true) else(if(decide ((16:Int)<(List.length a0.1.2.2.2.2.1:Int)))=true then(some true) else(some (decide ((8:Int)<(List.length a0.1.2.2.2.2.2.1:Int))))))))) fun v1=>if v1=true then(some false) else(Option.bind (xN a0.1.2.2.2.2.2.1) fun y2=>some (!y2))
def adM:SS:=⟨48,88,[(2,vB)],[],[]⟩
def c80:bG:=aG G [.tmp 2] 80 [.val lK] [] 88 adM [] (.bY (u1 f80))
theorem x80:hS c80:=
 cO (hR [hD 1 42 [],hA 3 0]) (hq PU hz) aJ Tryz.call80 Tryz.func80
def Up(a0:kN)(a1:gJ):Zm:=
 Option.bind (α:=Bool) (if(decide ((1:Int)≤a1.2.2.2.2.1))=true then(if(decide (a1.2.2.2.2.1≤(1099511627776:Int)))=true then(if(decide ((0:Int)≤a1.2.2.2.1))=true then(if(decide (a1.2.2.2.1<(List.length a0.1.2.1:Int)))=true then(if 0≤a1.2.2.2.1 then(if a1.2.2.2.1<(List.length a0.1.2.1:Int) then(some (decide ((nth aZ a0.1.2.1 a1.2.2.2.1).2.2.2.2.1=(1:Int)))) else none) else none) else(some false)) else(some false)) else(some false)) else(some false)) fun v1=>some v1
def adN:SS:=⟨38,78,[(4,vB)],[],[]⟩
def c84:bG:=aG G [.tmp 4] 84 [.val lK,.val aZ] [] 78 adN [] (.bY (u2 Up))
theorem x84:hS c84:=
 cO (hR [hD 1 4 []]) hz aJ Tryz.call84 Tryz.func84
def uk(a0:gJ)(a1:kN):Uv:=
 Option.bind (Up a1 a0) fun y1=>some (!y1,a1)
def adO:SS:=⟨8,48,[(3,vB)],[(0,.var (.aW .func) (.fc 84 lK))],[]⟩
def PW:bG:=aG G [.tmp 3] 143 [.val aZ,pP 0] [(0,.var (.aW .func) (.fc 84 lK))] 48 adO [0] (.bY (u2 uk))
theorem PX:hS PW:=
 cO (hR [hA 1 0]) (hq x84 hz) aJ Tryz.call143 Tryz.func143
def Hi:Nat→Zv×Int×GB→Option (dR kN GB):=aL fun aoK ⟨e,d,c,f⟩=>if(decide (c<d))=true then(if 0≤c then(if c<(List.length e:Int) then(Option.bind (uk (nth aZ e c) f) fun⟨a,b⟩=>if a=true then(cU (some (c,b))) else(aoK (e,d,aV (c+1),b))) else none) else none) else(some (.aX f))
def B5(a0:Zv)(a1:kN):Option GB:=
 aI (U:=kN) (Hi (Int.toNat (List.length a0:Int)+1) (a0,(List.length a0:Int),0,a1)) fun v1=>some ((-1:Int),v1)
def adP:SS:=⟨19,59,[],[(0,.var (.aW .func) (.fc 84 lK))],[]⟩
def adQ:SS:=⟨19,59,[(0,.val (.slice 56 aZ)),(1,.func 143 .nil (.cons (pP 0) .nil)),tI 7,tI 8],[(0,.var (.aW .func) (.fc 84 lK))],[]⟩
def adR:SS:=⟨19,59,[tI 4],[(0,.var (.aW .func) (.fc 84 lK))],[]⟩
def PY:bG:=aG G [.tmp 4] 225 [.val (.slice 56 aZ),.func 143 .nil (.cons (pP 0) .nil)] [(0,.var (.aW .func) (.fc 84 lK))] 59 adR [0] (.bY (u2 B5))
theorem PZ:hS PY:=
 cO ⟨[hE 4 [cB 0 [(0,0)] []]],[(7,adP)],[],[(2,⟨adQ,fun u2=>Int.toNat u2.2.1+1⟩)],[],[]⟩ (hq PX hz) aJ Tryz.call225 Tryz.func225
def B6(a0:Zv)(a1:kN):Uv:=
 Option.bind (B5 a0 a1) fun⟨a,b⟩=>some (decide ((0:Int)≤a),b)
def adS:SS:=⟨9,49,[(4,vB)],[(0,.var (.aW .func) (.fc 84 lK))],[]⟩
def P0:bG:=aG G [.tmp 4] 142 [.val (.slice 56 aZ),.func 143 .nil (.cons (pP 0) .nil)] [(0,.var (.aW .func) (.fc 84 lK))] 49 adS [0] (.bY (u2 B6))
theorem P1:hS P0:=
 cO (hR [hE 1 [cB 0 [(0,0)] []]]) (hq PZ hz) aJ Tryz.call142 Tryz.func142
def B7(a0:Zv)(a1:kN):Zm:=
 Option.bind (B6 a0 a1) fun⟨a,_⟩=>some (!a)
def Vd:bG:=aG G [.tmp 4] 83 [.val (.slice 56 aZ),.fc 84 lK] [] 49 Mw [] (.bY (u2 B7))
theorem Ve:hS Vd:=
 cO (hR [hE 1 [cB 0 [(0,19)] []]]) (hq P1 hz) aJ Tryz.call83 Tryz.func83
def Vf:Option (List (Option Nat)):=
 some [none,some 75,some 76,some 77,some 78]
def adT:SS:=⟨2,42,[tP 0 16],[(16,.var (.fns 5) (.val (.fns 5)))],[]⟩
def Vg:bG:=aG G [.cell 0 148] 53 [] [] 42 adT [] (.bY (fun _=>Vf))
theorem Vh:hS Vg:=
 cO (hR []) hz aJ Tryz.call53 Tryz.func53
def Hj:Nat→Zs×Int×Int×List (Zf×Bool)→Zu:=aL fun aoK ⟨c,b,a,d⟩=>if(decide (a<b))=true then(if 0≤a then(if a<(List.length c:Int) then(if(aO .str .bool (nth .str c a) d)=true then(cU (some false)) else(if List.length d+1≤aF then(aoK (c,b,aV (a+1),bJ .str (nth .str c a) true d)) else none)) else none) else none) else(some (.aX ()))
def f79(a0:Zs):Zm:=
 aI (U:=Unit) (Hj (Int.toNat (List.length a0:Int)+1) (a0,(List.length a0:Int),0,([]:List (Zf×Bool)))) fun _=>some true
def adV:SS:=⟨21,61,[],[],[]⟩
def adW:SS:=⟨21,61,[(3,.mp 24),(9,.val (.slice 16 .str)),tI 10,tI 11],[(24,.map .str .bool)],[]⟩
def adX:SS:=⟨21,61,[(2,vB)],[],[]⟩
def c79:bG:=aG G [.tmp 2] 79 [.val (.slice 16 .str)] [] 61 adX [] (.bY (u1 f79))
theorem x79:hS c79:=
 cO ⟨[],[(9,adV)],[],[(3,⟨adW,fun u2=>Int.toNat u2.2.1+1⟩)],[],[]⟩ hz aJ Tryz.call79 Tryz.func79
def Gx(a0:ji)(_a1:Int):Zm:=
 Option.bind (α:=Bool) (if(decide (a0.2.1=(0:Int)))=true then(if(decide (a0.2.2.1=(aV ((List.length a0.2.2.2.2.2.1:Int) -(1:Int)))))=true then(if(decide (a0.2.2.2.2.1=(-1:Int)))=true then(if(decide ((1:Int)≤(List.length a0.2.2.2.2.2.1:Int)))=true then(if(decide ((List.length a0.2.2.2.2.2.1:Int)≤(16:Int)))=true then(Option.bind (f79 a0.2.2.2.2.2.1) fun y1=>some y1) else(some false)) else(some false)) else(some false)) else(some false)) else(some false)) fun v2=>some v2
def adY:SS:=⟨39,79,[(4,vB)],[],[]⟩
def c78:bG:=aG G [.tmp 4] 78 [.val qI,vI] [] 79 adY [] (.bY (u2 Gx))
theorem x78:hS c78:=
 cO (hR [hD 1 4 [cA 0]]) (hq x79 hz) aJ Tryz.call78 Tryz.func78
def Gy(a0:ji)(_a1:Int):Zm:=
 Option.bind (α:=Bool) (if(decide (a0.2.1=(0:Int)))=true then(if(decide (a0.2.2.1=(4095:Int)))=true then(if(decide (a0.2.2.2.2.1=(-1:Int)))=true then(some (decide ((List.length a0.2.2.2.2.2.1:Int)=(0:Int)))) else(some false)) else(some false)) else(some false)) fun v1=>some v1
def Yo:SS:=⟨24,64,[(4,vB)],[],[]⟩
def c77:bG:=aG G [.tmp 4] 77 [.val qI,vI] [] 64 Yo [] (.bY (u2 Gy))
theorem x77:hS c77:=
 cO (hR [hD 1 4 []]) hz aJ Tryz.call77 Tryz.func77
def Gz(a0:ji)(_a1:Int):Zm:=
 Option.bind (α:=Bool) (if(decide (a0.2.1=(0:Int)))=true then(if(decide (a0.2.2.1=(1023:Int)))=true then(if(decide (a0.2.2.2.2.1=(-1:Int)))=true then(some (decide ((List.length a0.2.2.2.2.2.1:Int)=(0:Int)))) else(some false)) else(some false)) else(some false)) fun v1=>some v1
def c76:bG:=aG G [.tmp 4] 76 [.val qI,vI] [] 64 Yo [] (.bY (u2 Gz))
theorem x76:hS c76:=
 cO (hR [hD 1 4 []]) hz aJ Tryz.call76 Tryz.func76
def Pw(a0:ji)(a1:Int):Zm:=
 Option.bind (α:=Bool) (if(decide ((0:Int)≤a0.2.1))=true then(if(decide (a0.2.1≤a0.2.2.1))=true then(if(decide (a0.2.2.1≤(1048576:Int)))=true then(if(decide ((-1:Int)≤a0.2.2.2.2.1))=true then(if(decide (a0.2.2.2.2.1<a1))=true then(some (decide ((List.length a0.2.2.2.2.2.1:Int)=(0:Int)))) else(some false)) else(some false)) else(some false)) else(some false)) else(some false)) fun v1=>some v1
def adZ:SS:=⟨37,77,[(4,vB)],[],[]⟩
def c75:bG:=aG G [.tmp 4] 75 [.val qI,vI] [] 77 adZ [] (.bY (u2 Pw))
theorem x75:hS c75:=
 cO (hR [hD 1 4 []]) hz aJ Tryz.call75 Tryz.func75
def uj(a0:kN)(a1:ji):Zm:=
 aI (U:=kN×ji) (Option.bind (α:=Bool) (if(decide (a1.1<(1:Int)))=true then(some true) else(some (decide ((4:Int)<a1.1)))) fun v2=>if v2=true then(cU (some false)) else(some (.aX (a0,a1)))) fun⟨b,a⟩=>if 0≤a.1 then(if a.1<(5:Int) then(if a.1=(0:Int) then none else(if a.1=(1:Int) then(Option.bind (Pw a (List.length b.1.2.1:Int)) fun y6=>some y6) else(if a.1=(2:Int) then(Option.bind (Gz a (List.length b.1.2.1:Int)) fun y5=>some y5) else(if a.1=(3:Int) then(Option.bind (Gy a (List.length b.1.2.1:Int)) fun y4=>some y4) else(if a.1=(4:Int) then(Option.bind (Gx a (List.length b.1.2.1:Int)) fun y3=>some y3) else none))))) else none) else none
def ad0:SS:=⟨23,63,[tP 2 18,tP 3 19],[(18,bV lK),(19,bV qI)],[]⟩
def ad1:SS:=⟨23,63,[(4,vB)],[],[]⟩
def c29:bG:=aG G [.tmp 4] 29 [.val lK,.val qI] [] 63 ad1 [] (.bY (u2 uj))
theorem x29:hS c29:=
 cO ⟨[hD 1 12 [],hE 3 [cA 0,⟨[1,2,3,4],[],[],[],[]⟩]],[(3,ad0)],[],[],[],[]⟩ (hq Vh (hq x78 (hq x77 (hq x76 (hq x75 hz))))) aJ Tryz.call29 Tryz.func29
def vQ:Nat→ZE×Int×Int×Fl×GB→Option (dR (ZE×Int×GB) (dR Unit Bool)):=aL fun rec9 ⟨c,d,e,b,a,f⟩=>if(decide (a<(4:Int)))=true then(if 0≤a then(if a<(4:Int) then(Option.bind (α:=Bool) (if(decide ((nth (.int .i64) b a)<(0:Int)))=true then(some true) else(some (decide ((9:Int)<(nth (.int .i64) b a))))) fun v10=>if v10=true then(cU (cU (some false))) else(rec9 (c,d,e,b,aV (a+1),f))) else none) else none) else(some (.aX (c,d,e,f)))
def B8:Nat→ZE×Int×GB→Zu:=aL fun apm ⟨g,f,e,h⟩=>if(decide (e<f))=true then(aI (U:=ZE×Int×GB) (if 0≤e then(if e<(List.length g:Int) then(Option.bind (uj h (nth cM g e).2.1) fun y7=>if(!y7)=true then(cU (cU (some false))) else(vQ (Int.toNat (4:Int)+1) (g,f,e,(nth cM g e).2.2.1,0,h))) else none) else none) fun⟨a,b,c,d⟩=>apm (a,b,aV (c+1),d)) else(some (.aX ()))
def Yp(a0:kN)(a1:pQ):Zm:=
 aI (U:=kN×pQ) (Option.bind (α:=Bool) (if(decide (a1.2.2.1<(0:Int)))=true then(some true) else(if(decide ((List.length a0.1.1:Int)≤a1.2.2.1))=true then(some true) else(if(decide (a1.2.2.2.1<(1:Int)))=true then(some true) else(if(decide ((255:Int)<a1.2.2.2.1))=true then(some true) else(if(decide ((List.length a1.2.2.2.2.1:Int)<(1:Int)))=true then(some true) else(if(decide ((12:Int)<(List.length a1.2.2.2.2.1:Int)))=true then(some true) else(if(0:Int)<(List.length a1.2.2.2.2.1:Int) then(some (!decide ((nth cM a1.2.2.2.2.1 (0:Int)).2.1.1=(3:Int)))) else none))))))) fun v2=>if v2=true then(cU (some false)) else(some (.aX (a0,a1)))) fun⟨b,a⟩=>aI (U:=Unit) (B8 (Int.toNat (List.length a.2.2.2.2.1:Int)+1) (a.2.2.2.2.1,(List.length a.2.2.2.2.1:Int),0,b)) fun _=>some true
def ad3:SS:=⟨77,117,[tP 2 18,tP 3 19],[(18,bV lK),(19,bV aR)],[]⟩
def Yq:SS:=⟨77,117,[tP 2 18,(53,.val (.slice 120 cM)),tI 54,tI 55],[(18,bV lK)],[]⟩
def ad4:SS:=⟨77,117,[],[],[]⟩
def ad5:SS:=⟨77,117,[tP 2 18,(53,.val (.slice 120 cM)),tI 54,tI 55,(65,.val H7),tI 66],[(18,bV lK)],[]⟩
def ad6:SS:=⟨77,117,[(4,vB)],[],[]⟩
def c86:bG:=aG G [.tmp 4] 86 [.val lK,.val aR] [] 117 ad6 [] (.bY (u2 Yp))
theorem x86:hS c86:=
 cO ⟨[hD 1 51 [],hA 6 0,hD 11 74 []],[(3,ad3),(14,Yq),(15,ad4)],[],[(4,⟨Yq,fun u4=>Int.toNat u4.2.1+1⟩),(9,⟨ad5,fun _=>Int.toNat (4:Int)+1⟩)],[],[]⟩ (hq x29 hz) aJ Tryz.call86 Tryz.func86
def um(a0:pQ)(a1:kN):Uv:=
 Option.bind (Yp a1 a0) fun y1=>some (!y1,a1)
def ad7:SS:=⟨8,48,[(3,vB)],[(0,.var (.aW .func) (.fc 86 lK))],[]⟩
def P2:bG:=aG G [.tmp 3] 145 [.val aR,pP 0] [(0,.var (.aW .func) (.fc 86 lK))] 48 ad7 [0] (.bY (u2 um))
theorem P3:hS P2:=
 cO (hR [hA 1 0]) (hq x86 hz) aJ Tryz.call145 Tryz.func145
def Hk:Nat→Zn×Int×GB→Option (dR kN GB):=aL fun aoK ⟨e,d,c,f⟩=>if(decide (c<d))=true then(if 0≤c then(if c<(List.length e:Int) then(Option.bind (um (nth aR e c) f) fun⟨a,b⟩=>if a=true then(cU (some (c,b))) else(aoK (e,d,aV (c+1),b))) else none) else none) else(some (.aX f))
def B9(a0:Zn)(a1:kN):Option GB:=
 aI (U:=kN) (Hk (Int.toNat (List.length a0:Int)+1) (a0,(List.length a0:Int),0,a1)) fun v1=>some ((-1:Int),v1)
def ad8:SS:=⟨19,59,[],[(0,.var (.aW .func) (.fc 86 lK))],[]⟩
def ad9:SS:=⟨19,59,[(0,.val (.slice 96 aR)),(1,.func 145 .nil (.cons (pP 0) .nil)),tI 7,tI 8],[(0,.var (.aW .func) (.fc 86 lK))],[]⟩
def aea:SS:=⟨19,59,[tI 4],[(0,.var (.aW .func) (.fc 86 lK))],[]⟩
def P4:bG:=aG G [.tmp 4] 226 [.val (.slice 96 aR),.func 145 .nil (.cons (pP 0) .nil)] [(0,.var (.aW .func) (.fc 86 lK))] 59 aea [0] (.bY (u2 B9))
theorem P5:hS P4:=
 cO ⟨[hE 4 [cB 0 [(0,0)] []]],[(7,ad8)],[],[(2,⟨ad9,fun u2=>Int.toNat u2.2.1+1⟩)],[],[]⟩ (hq P3 hz) aJ Tryz.call226 Tryz.func226
def Ca(a0:Zn)(a1:kN):Uv:=
 Option.bind (B9 a0 a1) fun⟨a,b⟩=>some (decide ((0:Int)≤a),b)
def aeb:SS:=⟨9,49,[(4,vB)],[(0,.var (.aW .func) (.fc 86 lK))],[]⟩
def P6:bG:=aG G [.tmp 4] 144 [.val (.slice 96 aR),.func 145 .nil (.cons (pP 0) .nil)] [(0,.var (.aW .func) (.fc 86 lK))] 49 aeb [0] (.bY (u2 Ca))
theorem P7:hS P6:=
 cO (hR [hE 1 [cB 0 [(0,0)] []]]) (hq P5 hz) aJ Tryz.call144 Tryz.func144
def Cb(a0:Zn)(a1:kN):Zm:=
 Option.bind (Ca a0 a1) fun⟨a,_⟩=>some (!a)
def Vi:bG:=aG G [.tmp 4] 85 [.val (.slice 96 aR),.fc 86 lK] [] 49 Mw [] (.bY (u2 Cb))
theorem Vj:hS Vi:=
 cO (hR [hE 1 [cB 0 [(0,19)] []]]) (hq P7 hz) aJ Tryz.call85 Tryz.func85
def P8(a0:kN)(a1:Int)(a2:Int):Option (Bool×ji):=
 aI (U:=Int×Int×kN×Int×Int×Int×Zf×Int) (Option.bind (α:=Bool) (if(decide (a1<(0:Int)))=true then(some true) else(if(decide ((List.length a0.1.2.2.1:Int)≤a1))=true then(some true) else(if(decide (a2<(0:Int)))=true then(some true) else(if 0≤a1 then(if a1<(List.length a0.1.2.2.1:Int) then(some (decide ((List.length (nth aR a0.1.2.2.1 a1).2.2.2.2.1:Int)≤a2))) else none) else none)))) fun v2=>if v2=true then(cU (some (false,0,0,0,[],0,([]:Zs),()))) else(some (.aX (a1,a2,a0,0,0,0,[],0)))) fun⟨a,c,b,_,_,_,_,_⟩=>if 0≤a then(if a<(List.length b.1.2.2.1:Int) then(if 0≤c then(if c<(List.length (nth aR b.1.2.2.1 a).2.2.2.2.1:Int) then(some (true,(nth cM (nth aR b.1.2.2.1 a).2.2.2.2.1 c).2.1)) else none) else none) else none) else none
def aec:SS:=⟨46,86,[tI 1,tI 2,tP 3 19,tP 6 22],[(19,bV lK),(22,.var qI (.cons vI (.cons vI (.cons vI (.cons (.val .str) (.cons vI (.cons .aM .nil)))))))],[]⟩
def aed:SS:=⟨46,86,[tP 6 22,(7,vB)],[(22,bV qI)],[]⟩
def c28:bG:=aG G [.cell 6 94,.tmp 7] 28 [.val lK,vI,vI] [] 86 aed [] (.bY (u3 P8))
theorem Yr:hS c28:=
 cO ⟨[hD 1 33 []],[(3,aec)],[],[],[],[]⟩ hz aJ Tryz.call28 Tryz.func28
def Hl(a0:im)(a1:gJ)(a2:Int):Option (Bool×ji):=
 aI (U:=im×gJ×Int×Int×Int×Zf×Int) (Option.bind (α:=Bool) (if(decide (a1.2.2.1<(0:Int)))=true then(some true) else(some (decide (a2≤a1.2.2.1)))) fun v2=>if v2=true then(cU (some (false,0,0,0,[],0,([]:Zs),()))) else(some (.aX (a0,a1,0,0,0,[],0)))) fun⟨b,a,_,_,_,_,_⟩=>if 0≤a.2.2.1 then(if a.2.2.1<(List.length b.2.1.2.2.1:Int) then(Option.bind (P8 b.1 (nth bE b.2.1.2.2.1 a.2.2.1).2.2.1 a.2.2.2.1) fun⟨c,d⟩=>some (c,d)) else none) else none
def aee:SS:=⟨33,73,[tP 3 19,tP 4 20,tP 6 22],[(19,bV qR),(20,bV aZ),(22,.var qI (.cons vI (.cons vI (.cons vI (.cons (.val .str) (.cons vI (.cons .aM .nil)))))))],[]⟩
def aef:SS:=⟨33,73,[tP 6 22,(7,vB)],[(22,bV qI)],[]⟩
def aeg:bG:=aG G [.cell 6 94,.tmp 7] 222 [.val qR,.val aZ,vI] [] 73 aef [] (.bY (u3 Hl))
theorem Vk:hS aeg:=
 cO ⟨[hD 1 16 [],hA 3 0],[(3,aee)],[],[],[],[]⟩ (hq Yr hz) aJ Tryz.call222 Tryz.func222
def xO:Nat→ZA×Int×Int×im→Zu:=aL fun apm ⟨k,j,i,l⟩=>if(decide (i<j))=true then(if 0≤i then(if i<(List.length k:Int) then(aI (U:=Int×ZA×Int×Int×im×Ia) (Option.bind (α:=Bool) (if(decide ((nth bE k i).2.2.1<(0:Int)))=true then(some true) else(some (decide ((List.length l.1.1.2.2.1:Int)≤(nth bE k i).2.2.1)))) fun v7=>if v7=true then(cU (cU (some false))) else(some (.aX (i,k,j,i,l,nth bE k i)))) fun⟨f,b,c,d,e,a⟩=>if(decide (a.2.2.2.1.2.2.1=(-1:Int)))=true then(apm (b,c,aV (d+1),e)) else(Option.bind (Hl e a.2.2.2.1 f) fun⟨g,h⟩=>Option.bind (α:=Bool) (if(!g)=true then(some true) else(some (!decide (h.1=(3:Int))))) fun v9=>if v9=true then(cU (some false)) else(apm (b,c,aV (d+1),e)))) else none) else none) else(some (.aX ()))
def Mx(a0:im):Zm:=
 aI (U:=im) (Option.bind (α:=Bool) (if(decide ((List.length a0.2.1.2.2.1:Int)<(1:Int)))=true then(some true) else(some (decide ((3:Int)<(List.length a0.2.1.2.2.1:Int))))) fun v2=>if v2=true then(cU (some false)) else(some (.aX a0))) fun v1=>aI (U:=Unit) (xO (Int.toNat (List.length v1.2.1.2.2.1:Int)+1) (v1.2.1.2.2.1,(List.length v1.2.1.2.2.1:Int),0,v1)) fun _=>some true
def aeh:SS:=⟨61,101,[tP 1 17],[(17,bV qR)],[]⟩
def aei:SS:=⟨61,101,[tP 1 17,tI 3,tP 4 20,(21,.val (.slice 96 bE)),tI 22,tI 23],[(17,bV qR),(20,bV bE)],[]⟩
def aej:SS:=⟨61,101,[],[],[]⟩
def aek:SS:=⟨61,101,[tP 1 17,(21,.val (.slice 96 bE)),tI 22,tI 23],[(17,bV qR)],[]⟩
def ael:SS:=⟨61,101,[(2,vB)],[],[]⟩
def aem:bG:=aG G [.tmp 2] 138 [.val qR] [] 101 ael [] (.bY (u1 Mx))
theorem aen:hS aem:=
 cO ⟨[hD 1 18 [],hD 6 40 [],hA 9 0,hD 10 59 []],[(3,aeh),(8,aei),(13,aej)],[],[(4,⟨aek,fun u4=>Int.toNat u4.2.1+1⟩)],[],[]⟩ (hq Vk hz) aJ Tryz.call138 Tryz.func138
def My(a0:gJ):Zm:=
 Option.bind (α:=Bool) (if(decide (a0.2.2.1=(-1:Int)))=true then(if(decide ((0:Int)≤a0.2.2.2.2.1))=true then(some (decide (a0.2.2.2.2.1≤(1048576:Int)))) else(some false)) else(some false)) fun v1=>some v1
def aeo:SS:=⟨16,56,[(2,vB)],[],[]⟩
def aep:bG:=aG G [.tmp 2] 223 [.val aZ] [] 56 aeo [] (.bY (u1 My))
theorem Ys:hS aep:=
 cO (hR [hD 1 2 []]) hz aJ Tryz.call223 Tryz.func223
def P9(a0:kN)(a1:ji)(a2:ji):Zm:=
 aI (U:=kN×ji×ji) (if(!decide (a1.1=a2.1))=true then(cU (some false)) else(if(decide (a1.1=(4:Int)))=true then(Option.bind (UP a1.2.2.2.2.2.1 a2.2.2.2.2.2.1) fun y2=>cU (some y2)) else(Option.bind (α:=Bool) (if(!decide (a1.1=(1:Int)))=true then(some true) else(if(decide (a1.2.2.2.2.1=(-1:Int)))=true then(some true) else(some (decide (a2.2.2.2.2.1=(-1:Int)))))) fun v3=>if v3=true then(cU (some (decide (a1.2.2.2.2.1=a2.2.2.2.2.1)))) else(some (.aX (a0,a1,a2)))))) fun⟨b,a,c⟩=>if 0≤a.2.2.2.2.1 then(if a.2.2.2.2.1<(List.length b.1.2.1:Int) then(if 0≤c.2.2.2.2.1 then(if c.2.2.2.2.1<(List.length b.1.2.1:Int) then(some (decide ((nth aZ b.1.2.1 a.2.2.2.2.1).2.2.2.1=(nth aZ b.1.2.1 c.2.2.2.2.1).2.2.2.1))) else none) else none) else none) else none
def aeq:SS:=⟨58,98,[tP 3 19,tP 4 20,tP 5 21],[(19,bV lK),(20,bV qI),(21,bV qI)],[]⟩
def aer:SS:=⟨58,98,[(6,vB)],[],[]⟩
def aes:bG:=aG G [.tmp 6] 224 [.val lK,.val qI,.val qI] [] 98 aer [] (.bY (u3 P9))
theorem aet:hS aes:=
 cO ⟨[hA 4 0,hD 5 22 []],[(7,aeq)],[],[],[],[]⟩ (hq x97 hz) aJ Tryz.call224 Tryz.func224
def sr:Nat→Int×Int×im×zL×Zv×List ji→Option (dR (im×zL×List ji) Bool):=aL fun apm ⟨d,c,f,h,e,g⟩=>if(decide (c<d))=true then(if 0≤c then(if c<(List.length e:Int) then(Option.bind (Hl f (nth aZ e c) (List.length f.2.1.2.2.1:Int)) fun⟨a,b⟩=>Option.bind (α:=Bool) (if(!a)=true then(Option.bind (My (nth aZ e c)) fun y7=>some (!y7)) else(some false)) fun v8=>if v8=true then(cU (some false)) else(if a=true then(if(List.length g+List.length [b])*72≤aF then(apm (d,aV (c+1),f,h,e,g++[b])) else none) else(apm (d,aV (c+1),f,h,e,g)))) else none) else none) else(some (.aX (f,h,g)))
def qY:Nat→Int×Int×zL×List ji→Zu:=aL fun rec14 ⟨b,a,d,c⟩=>if(decide (a<b))=true then(if 0≤a then(if a<(List.length c:Int) then(Option.bind (α:=Bool) (if(decide ((nth qI c a).1=(1:Int)))=true then(some true) else(some (decide ((nth qI c a).1=(2:Int))))) fun v15=>Option.bind (α:=Bool) (if(decide (d.1=(2:Int)))=true then(some (!v15)) else(if(decide (d.1=(3:Int)))=true then(some (!v15)) else(some false))) fun v16=>if v16=true then(cU (some false)) else(rec14 (b,aV (a+1),d,c))) else none) else none) else(some (.aX ()))
def Qa(a0:im)(a1:zL):Zm:=
 aI (U:=im×zL) (Option.bind (α:=Bool) (if(decide (a1.1<(1:Int)))=true then(some true) else(some (decide ((4:Int)<a1.1)))) fun v2=>if v2=true then(cU (some false)) else(some (.aX (a0,a1)))) fun⟨b,a⟩=>aI (U:=im×zL×List ji) (sr (Int.toNat (List.length [a.2.1,a.2.2.1]:Int)+1) ((List.length [a.2.1,a.2.2.1]:Int),0,b,a,[a.2.1,a.2.2.1],([]:List ji))) fun⟨d,e,c⟩=>aI (U:=zL×List ji) (Option.bind (α:=Bool) (if(decide ((List.length c:Int)=(0:Int)))=true then(some true) else(if(decide ((List.length c:Int)=(2:Int)))=true then(if(0:Int)<(List.length c:Int) then(if(1:Int)<(List.length c:Int) then(Option.bind (P9 d.1 (nth qI c (0:Int)) (nth qI c (1:Int))) fun y10=>some (!y10)) else none) else none) else(some false))) fun v11=>if v11=true then(cU (some false)) else(some (.aX (e,c)))) fun⟨g,f⟩=>aI (U:=Unit) (qY (Int.toNat (List.length f:Int)+1) ((List.length f:Int),0,g,f)) fun _=>some true
def aeu:SS:=⟨101,141,[tP 2 18,tP 3 19],[(18,bV qR),(19,bV cF)],[]⟩
def aev:SS:=⟨101,141,[tP 2 18,tP 3 19,(5,.own 118)],[(18,bV qR),(19,bV cF),(118,.row 94 72 qI)],[]⟩
def aew:SS:=⟨101,141,[tP 3 19,(5,.own 118)],[(19,bV cF),(118,.row 94 72 qI)],[]⟩
def aex:SS:=⟨101,141,[],[],[]⟩
def aey:SS:=⟨101,141,[tP 2 18,tP 3 19,(5,.own 117),(25,.own 41),tI 26,tI 27],[(18,bV qR),(19,bV cF),(41,.row 59 56 aZ),(117,.row 94 72 qI)],[]⟩
def aez:SS:=⟨101,141,[tP 3 19,(74,.own 118),tI 75,tI 76],[(19,bV cF),(118,.row 94 72 qI)],[]⟩
def aeA:SS:=⟨101,141,[(4,vB)],[],[]⟩
def aeB:bG:=aG G [.tmp 4] 139 [.val qR,.val cF] [] 141 aeA [] (.bY (u2 Qa))
theorem aeC:hS aeB:=
 cO ⟨[hD 1 20 [],hA 7 0,hD 8 47 [cA 1],hD 13 73 [cA 2],hD 18 12 [],hD 19 99 []],[(3,aeu),(13,aev),(15,aew),(22,aex)],[],[(5,⟨aey,fun u4=>Int.toNat u4.1+1⟩),(16,⟨aez,fun LU=>Int.toNat LU.1+1⟩)],[],[]⟩ (hq Vk (hq Ys (hq aet hz))) aJ Tryz.call139 Tryz.func139
def Qb(a0:im)(a1:ji)(a2:gJ):Zm:=
 Option.bind (My a2) fun y1=>if y1=true then(Option.bind (α:=Bool) (if(decide (a1.2.1≤a2.2.2.2.2.1))=true then(some (decide (a2.2.2.2.2.1≤a1.2.2.1))) else(some false)) fun v2=>some v2) else(Option.bind (Hl a0 a2 (List.length a0.2.1.2.2.1:Int)) fun⟨a,b⟩=>Option.bind (α:=Bool) (if a=true then(if(decide (b.1=a1.1))=true then(if(decide (b.2.2.2.2.1=a1.2.2.2.2.1))=true then(Option.bind (UP b.2.2.2.2.2.1 a1.2.2.2.2.2.1) fun y4=>if y4=true then(if(decide (a1.2.1≤b.2.1))=true then(if(decide (b.2.1≤a1.2.2.1))=true then(if(decide (a1.2.1≤b.2.2.1))=true then(some (decide (b.2.2.1≤a1.2.2.1))) else(some false)) else(some false)) else(some false)) else(some false)) else(some false)) else(some false)) else(some false)) fun v5=>some v5)
def aeD:SS:=⟨83,123,[(6,vB)],[],[]⟩
def aeE:bG:=aG G [.tmp 6] 140 [.val qR,.val qI,.val aZ] [] 123 aeD [] (.bY (u3 Qb))
theorem aeF:hS aeE:=
 cO (hR [hA 1 0,hD 2 6 [],hA 3 1,hD 4 6 [cA 2]]) (hq Ys (hq Vk (hq x97 hz))) aJ Tryz.call140 Tryz.func140
def Cc:Nat→Zd×Int×Int×Zr→Zu:=aL fun aoK ⟨c,b,a,d⟩=>if(decide (a<b))=true then(if 0≤a then(if a<(List.length c:Int) then(if(aO (.int .i64) .bool (nth (.int .i64) c a) d)=true then(cU (some false)) else(if List.length d+1≤aF then(aoK (c,b,aV (a+1),bJ (.int .i64) (nth (.int .i64) c a) true d)) else none)) else none) else none) else(some (.aX ()))
def Vl(a0:Zd):Zm:=
 aI (U:=Unit) (Cc (Int.toNat (List.length a0:Int)+1) (a0,(List.length a0:Int),0,([]:Zr))) fun _=>some true
def aeG:SS:=⟨21,61,[],[],[]⟩
def aeH:SS:=⟨21,61,[(3,.mp 24),(9,.val (.slice 8 (.int .i64))),tI 10,tI 11],[(24,.map (.int .i64) .bool)],[]⟩
def aeI:SS:=⟨21,61,[(2,vB)],[],[]⟩
def aeJ:bG:=aG G [.tmp 2] 141 [.val (.slice 8 (.int .i64))] [] 61 aeI [] (.bY (u1 Vl))
theorem aeK:hS aeJ:=
 cO ⟨[],[(9,aeG)],[],[(3,⟨aeH,fun u2=>Int.toNat u2.2.1+1⟩)],[],[]⟩ hz aJ Tryz.call141 Tryz.func141
def vR:Nat→ZC×Int×Int×im→Option (dR im Bool):=aL fun rec6 ⟨c,b,a,d⟩=>if(decide (a<b))=true then(if 0≤a then(if a<(List.length c:Int) then(Option.bind (Qa d (nth cF c a)) fun y7=>if(!y7)=true then(cU (some false)) else(rec6 (c,b,aV (a+1),d))) else none) else none) else(some (.aX d))
def su:Nat→Int×ZD×Int×Int×im×Zd→Option (dR Zd Bool):=aL fun rec12 ⟨g,e,d,c,f,h⟩=>if(decide (c<d))=true then(if 0≤c then(if c<(List.length e:Int) then(Option.bind (P8 f.1 g (nth dE e c).2.1) fun⟨a,b⟩=>Option.bind (α:=Bool) (if(!a)=true then(some true) else(if(decide ((nth dE e c).2.1=(0:Int)))=true then(some true) else(Option.bind (Qb f b (nth dE e c).2.2.1) fun y14=>some (!y14)))) fun v15=>if v15=true then(cU (some false)) else(if(List.length h+List.length [(nth dE e c).2.1])*8≤aF then(rec12 (g,e,d,aV (c+1),f,h++[(nth dE e c).2.1])) else none)) else none) else none) else(some (.aX h))
def Yt(a0:im):Zm:=
 aI (U:=im) (Option.bind (α:=Bool) (Option.bind (Mx a0) fun y2=>if(!y2)=true then(some true) else(some (decide ((8:Int)<(List.length a0.2.1.2.2.2.1:Int))))) fun v3=>if v3=true then(cU (some false)) else(some (.aX a0))) fun v1=>aI (U:=im) (vR (Int.toNat (List.length v1.2.1.2.2.2.1:Int)+1) (v1.2.1.2.2.2.1,(List.length v1.2.1.2.2.2.1:Int),0,v1)) fun v4=>aI (U:=Int×im) (Option.bind (α:=Bool) (if(decide (v4.2.1.2.1<(0:Int)))=true then(some true) else(if(decide ((List.length v4.1.1.2.2.1:Int)≤v4.2.1.2.1))=true then(some true) else(if 0≤v4.2.1.2.1 then(if v4.2.1.2.1<(List.length v4.1.1.2.2.1:Int) then(some (!decide ((List.length v4.2.1.2.2.2.2.1:Int)=(aV ((List.length (nth aR v4.1.1.2.2.1 v4.2.1.2.1).2.2.2.2.1:Int) -(1:Int)))))) else none) else none))) fun v9=>if v9=true then(cU (some false)) else(some (.aX (v4.2.1.2.1,v4)))) fun⟨b,a⟩=>aI (U:=Zd) (su (Int.toNat (List.length a.2.1.2.2.2.2.1:Int)+1) (b,a.2.1.2.2.2.2.1,(List.length a.2.1.2.2.2.2.1:Int),0,a,([]:Zd))) fun v10=>Option.bind (Vl v10) fun y16=>some y16
def Yu:SS:=⟨105,145,[tP 1 17],[(17,bV qR)],[]⟩
def aeL:SS:=⟨105,145,[tP 1 17,tI 5],[(17,bV qR)],[]⟩
def aeM:SS:=⟨105,145,[(6,.own 122)],[(122,.row 3 8 (.int .i64))],[]⟩
def aeN:SS:=⟨105,145,[tP 1 17,(23,.val (.slice 120 cF)),tI 24,tI 25],[(17,bV qR)],[]⟩
def aeO:SS:=⟨105,145,[tP 1 17,tI 5,(6,.own 121),(67,.val (.slice 80 dE)),tI 68,tI 69],[(17,bV qR),(121,.row 3 8 (.int .i64))],[]⟩
def aeP:SS:=⟨105,145,[(2,vB)],[],[]⟩
def c82:bG:=aG G [.tmp 2] 82 [.val qR] [] 145 aeP [] (.bY (u1 Yt))
theorem x82:hS c82:=
 cO ⟨[hD 1 20 [cA 0],hA 6 1,hD 10 64 [],hA 16 2,hD 17 96 [cA 3],hA 21 4],[(3,Yu),(9,Yu),(12,aeL),(21,aeM)],[],[(4,⟨aeN,fun u5=>Int.toNat u5.2.1+1⟩),(14,⟨aeO,fun Ib=>Int.toNat Ib.2.2.1+1⟩)],[],[]⟩ (hq aen (hq aeC (hq Yr (hq aeF (hq aeK hz))))) aJ Tryz.call82 Tryz.func82
def Hm(a0:eQ)(a1:kN):Zm:=
 Option.bind (Yt (a1,a0,())) fun y1=>some y1
def aeQ:SS:=⟨8,48,[(3,vB)],[],[]⟩
def Vm:bG:=aG G [.tmp 3] 81 [.val bW,.dk lK] [] 48 aeQ [] (.bY (u2 Hm))
theorem Vn:hS Vm:=
 cO (hR [hA 1 0]) (hq x82 hz) aJ Tryz.call81 Tryz.func81
def uq(a0:eQ)(a1:kN):Uv:=
 Option.bind (Hm a0 a1) fun y1=>some (!y1,a1)
def aeR:SS:=⟨8,48,[(3,vB)],[(0,.var (.aW .func) (.func 81 .nil (.cons (.dk lK) .nil)))],[]⟩
def Qc:bG:=aG G [.tmp 3] 147 [.val bW,pP 0] [(0,.var (.aW .func) (.func 81 .nil (.cons (.dk lK) .nil)))] 48 aeR [0] (.bY (u2 uq))
theorem Qd:hS Qc:=
 cO (hR [hA 1 0]) (hq Vn hz) aJ Tryz.call147 Tryz.func147
def Hn:Nat→Zl×Int×GB→Option (dR kN GB):=aL fun aoK ⟨e,d,c,f⟩=>if(decide (c<d))=true then(if 0≤c then(if c<(List.length e:Int) then(Option.bind (uq (nth bW e c) f) fun⟨a,b⟩=>if a=true then(cU (some (c,b))) else(aoK (e,d,aV (c+1),b))) else none) else none) else(some (.aX f))
def Cd(a0:Zl)(a1:kN):Option GB:=
 aI (U:=kN) (Hn (Int.toNat (List.length a0:Int)+1) (a0,(List.length a0:Int),0,a1)) fun v1=>some ((-1:Int),v1)
def aeS:SS:=⟨19,59,[],[(0,.var (.aW .func) (.func 81 .nil (.cons (.dk lK) .nil)))],[]⟩
def aeT:SS:=⟨19,59,[(0,.val (.slice 96 bW)),(1,.func 147 .nil (.cons (pP 0) .nil)),tI 7,tI 8],[(0,.var (.aW .func) (.func 81 .nil (.cons (.dk lK) .nil)))],[]⟩
def aeU:SS:=⟨19,59,[tI 4],[(0,.var (.aW .func) (.func 81 .nil (.cons (.dk lK) .nil)))],[]⟩
def Qe:bG:=aG G [.tmp 4] 227 [.val (.slice 96 bW),.func 147 .nil (.cons (pP 0) .nil)] [(0,.var (.aW .func) (.func 81 .nil (.cons (.dk lK) .nil)))] 59 aeU [0] (.bY (u2 Cd))
theorem Qf:hS Qe:=
 cO ⟨[hE 4 [cB 0 [(0,0)] []]],[(7,aeS)],[],[(2,⟨aeT,fun u2=>Int.toNat u2.2.1+1⟩)],[],[]⟩ (hq Qd hz) aJ Tryz.call227 Tryz.func227
def Ce(a0:Zl)(a1:kN):Uv:=
 Option.bind (Cd a0 a1) fun⟨a,b⟩=>some (decide ((0:Int)≤a),b)
def aeV:SS:=⟨9,49,[(4,vB)],[(0,.var (.aW .func) (.func 81 .nil (.cons (.dk lK) .nil)))],[]⟩
def Qg:bG:=aG G [.tmp 4] 146 [.val (.slice 96 bW),.func 147 .nil (.cons (pP 0) .nil)] [(0,.var (.aW .func) (.func 81 .nil (.cons (.dk lK) .nil)))] 49 aeV [0] (.bY (u2 Ce))
theorem Qh:hS Qg:=
 cO (hR [hE 1 [cB 0 [(0,0)] []]]) (hq Qf hz) aJ Tryz.call146 Tryz.func146
def Cf(a0:Zl)(a1:kN):Zm:=
 Option.bind (Ce a0 a1) fun⟨a,_⟩=>some (!a)
def Vo:bG:=aG G [.tmp 4] 87 [.val (.slice 96 bW),.func 81 .nil (.cons (.dk lK) .nil)] [] 49 Mw [] (.bY (u2 Cf))
theorem Vp:hS Vo:=
 cO (hR [hE 1 [cB 0 [(0,19)] []]]) (hq Qh hz) aJ Tryz.call87 Tryz.func87
def vT:Nat→List mZ×Int×Int×kN×sY→Option (dR sY Bool):=aL fun aoK ⟨d,c,b,e,f⟩=>if(decide (b<c))=true then(if 0≤b then(if b<(List.length d:Int) then(Option.bind (P8 e (nth iE d b).2.2.1 (nth iE d b).2.2.2.1) fun⟨a,_⟩=>if(!a)=true then(cU (some false)) else(aoK (d,c,aV (b+1),e,f))) else none) else none) else(some (.aX f))
def Yv(a0:kN)(a1:sY):Zm:=
 aI (U:=sY) (vT (Int.toNat (List.length a1.2.1:Int)+1) (a1.2.1,(List.length a1.2.1:Int),0,a0,a1)) fun v1=>Option.bind (α:=Bool) (if(decide ((0:Int)≤v1.2.2.1))=true then(some (decide (v1.2.2.1≤(64:Int)))) else(some false)) fun v5=>some v5
def aeW:SS:=⟨36,76,[tP 3 19],[(19,bV fj)],[]⟩
def aeX:SS:=⟨36,76,[tP 2 18,tP 3 19,(10,.val (.slice 48 iE)),tI 11,tI 12],[(18,bV lK),(19,bV fj)],[]⟩
def aeY:SS:=⟨36,76,[(4,vB)],[],[]⟩
def c89:bG:=aG G [.tmp 4] 89 [.val lK,.val fj] [] 76 aeY [] (.bY (u2 Yv))
theorem x89:hS c89:=
 cO ⟨[hA 4 0,hD 8 4 []],[(8,aeW)],[],[(2,⟨aeX,fun u2=>Int.toNat u2.2.1+1⟩)],[],[]⟩ (hq Yr hz) aJ Tryz.call89 Tryz.func89
def ur(a0:sY)(a1:kN):Uv:=
 Option.bind (Yv a1 a0) fun y1=>some (!y1,a1)
def aeZ:SS:=⟨8,48,[(3,vB)],[(0,.var (.aW .func) (.fc 89 lK))],[]⟩
def Qi:bG:=aG G [.tmp 3] 148 [.val fj,pP 0] [(0,.var (.aW .func) (.fc 89 lK))] 48 aeZ [0] (.bY (u2 ur))
theorem Qj:hS Qi:=
 cO (hR [hA 1 0]) (hq x89 hz) aJ Tryz.call148 Tryz.func148
def Ho:Nat→Zy×Int×GB→Option (dR kN GB):=aL fun aoK ⟨e,d,c,f⟩=>if(decide (c<d))=true then(if 0≤c then(if c<(List.length e:Int) then(Option.bind (ur (nth fj e c) f) fun⟨a,b⟩=>if a=true then(cU (some (c,b))) else(aoK (e,d,aV (c+1),b))) else none) else none) else(some (.aX f))
def Cg(a0:Zy)(a1:kN):Option GB:=
 aI (U:=kN) (Ho (Int.toNat (List.length a0:Int)+1) (a0,(List.length a0:Int),0,a1)) fun v1=>some ((-1:Int),v1)
def ae0:SS:=⟨19,59,[],[(0,.var (.aW .func) (.fc 89 lK))],[]⟩
def ae1:SS:=⟨19,59,[(0,.val (.slice 48 fj)),(1,.func 148 .nil (.cons (pP 0) .nil)),tI 7,tI 8],[(0,.var (.aW .func) (.fc 89 lK))],[]⟩
def ae2:SS:=⟨19,59,[tI 4],[(0,.var (.aW .func) (.fc 89 lK))],[]⟩
def Qk:bG:=aG G [.tmp 4] 221 [.val (.slice 48 fj),.func 148 .nil (.cons (pP 0) .nil)] [(0,.var (.aW .func) (.fc 89 lK))] 59 ae2 [0] (.bY (u2 Cg))
theorem Ql:hS Qk:=
 cO ⟨[hE 4 [cB 0 [(0,0)] []]],[(7,ae0)],[],[(2,⟨ae1,fun u2=>Int.toNat u2.2.1+1⟩)],[],[]⟩ (hq Qj hz) aJ Tryz.call221 Tryz.func221
def Ch(a0:Zy)(a1:kN):Uv:=
 Option.bind (Cg a0 a1) fun⟨a,b⟩=>some (decide ((0:Int)≤a),b)
def ae3:SS:=⟨9,49,[(4,vB)],[(0,.var (.aW .func) (.fc 89 lK))],[]⟩
def Qm:bG:=aG G [.tmp 4] 136 [.val (.slice 48 fj),.func 148 .nil (.cons (pP 0) .nil)] [(0,.var (.aW .func) (.fc 89 lK))] 49 ae3 [0] (.bY (u2 Ch))
theorem Qn:hS Qm:=
 cO (hR [hE 1 [cB 0 [(0,0)] []]]) (hq Ql hz) aJ Tryz.call136 Tryz.func136
def Ci(a0:Zy)(a1:kN):Zm:=
 Option.bind (Ch a0 a1) fun⟨a,_⟩=>some (!a)
def Vq:bG:=aG G [.tmp 4] 88 [.val (.slice 48 fj),.fc 89 lK] [] 49 Mw [] (.bY (u2 Ci))
theorem Vr:hS Vq:=
 cO (hR [hE 1 [cB 0 [(0,19)] []]]) (hq Qn hz) aJ Tryz.call88 Tryz.func88
def Yw(a0:bD):ZW:=
 Option.bind (f80 (a0,())) fun y1=>if(!y1)=true then(some (2:Int)) else(Option.bind (α:=Bool) (Option.bind (B7 a0.2.1 (a0,())) fun y2=>if(!y2)=true then(some true) else(Option.bind (Cb a0.2.2.1 (a0,())) fun y3=>if(!y3)=true then(some true) else(Option.bind (Cf a0.2.2.2.1 (a0,())) fun y4=>if(!y4)=true then(some true) else(Option.bind (Ci a0.2.2.2.2.2.1 (a0,())) fun y5=>some (!y5))))) fun v6=>if v6=true then(some (120:Int)) else(some (0:Int)))
def ae4:SS:=⟨40,80,[tI 2],[],[]⟩
def c55:bG:=aG G [.tmp 2] 55 [.val eN] [] 80 ae4 [] (.bY (u1 Yw))
theorem x55:hS c55:=
 cO (hR [hA 2 0,hD 5 39 [cA 1,cA 2,cA 3,cA 4]]) (hq x80 (hq Ve (hq Vj (hq Vp (hq Vr hz))))) aJ Tryz.call55 Tryz.func55
def Qo(a0:Int)(a1:Int):Zm:=
 if 0≤a1 then(some (decide ((lE .and .u64 (Int.fdiv a0 (2^(min (Int.toNat a1) 64))) (1:Int))=(1:Int)))) else none
def ae5:SS:=⟨10,50,[(4,vB)],[],[]⟩
def ae6:bG:=aG G [.tmp 4] 228 [.val (.int .u64),vI] [] 50 ae5 [] (.bY (u2 Qo))
theorem ae7:hS ae6:=
 cO (hR []) hz aJ Tryz.call228 Tryz.func228
def sx:Nat→Int×Int×Zd×Int×Int×zJ→Option (dR (Int×Int×zJ) Bool):=aL fun aoK ⟨d,e,c,b,a,f⟩=>if(decide (a<b))=true then(if 0≤a then(if a<(List.length c:Int) then(Option.bind (α:=Bool) (if(decide ((nth (.int .i64) c a)<(0:Int)))=true then(some true) else(if(decide (d≤(nth (.int .i64) c a)))=true then(some true) else(Option.bind (Qo e (nth (.int .i64) c a)) fun y4=>some y4))) fun v5=>if v5=true then(cU (some false)) else(if 0≤(nth (.int .i64) c a) then(aoK (d,lE .or .u64 e (IntKind.u64.wrap ((1:Int)*2^(min (Int.toNat (nth (.int .i64) c a)) 64))),c,b,aV (a+1),f)) else none)) else none) else none) else(some (.aX (d,e,f)))
def Qp(a0:zJ)(a1:Int):Zm:=
 aI (U:=Int×Int×zJ) (sx (Int.toNat (List.length a0.2.2.1:Int)+1) (a1,0,a0.2.2.1,(List.length a0.2.2.1:Int),0,a0)) fun⟨c,a,b⟩=>Option.bind (α:=Bool) (if(!decide (a=(0:Int)))=true then(if(decide ((0:Int)≤b.2.2.2.1))=true then(if(decide (b.2.2.2.1<c))=true then(Option.bind (Qo a b.2.2.2.1) fun y6=>some (!y6)) else(some false)) else(some false)) else(some false)) fun v7=>some v7
def ae8:SS:=⟨52,92,[tI 1,tP 2 18,(5,.val (.int .u64))],[(18,bV iD)],[]⟩
def ae9:SS:=⟨52,92,[tI 1,tP 2 18,(5,.val (.int .u64)),(9,.val (.slice 8 (.int .i64))),tI 10,tI 11],[(18,bV iD)],[]⟩
def afa:SS:=⟨52,92,[(4,vB)],[],[]⟩
def afb:bG:=aG G [.tmp 4] 149 [.val iD,vI] [] 92 afa [] (.bY (u2 Qp))
theorem afc:hS afb:=
 cO ⟨[hD 5 26 [cA 0],hD 9 4 [cA 0]],[(9,ae8)],[],[(3,⟨ae9,fun u2=>Int.toNat u2.2.2.2.1+1⟩)],[],[]⟩ (hq ae7 hz) aJ Tryz.call149 Tryz.func149
def yL:Nat→Ic×Int×Int×pQ→Option (dR Unit Int):=aL fun apm ⟨c,b,a,d⟩=>if(decide (a<b))=true then(if 0≤a then(if a<(List.length c:Int) then(Option.bind (Qp (nth iD c a) (List.length d.2.2.2.2.1:Int)) fun y6=>if(!y6)=true then(cU (some (130:Int))) else(apm (c,b,aV (a+1),d))) else none) else none) else(some (.aX ()))
def f90(a0:pQ):ZW:=
 aI (U:=pQ) (Option.bind (α:=Bool) (if(decide ((List.length a0.2.2.2.2.1:Int)<(1:Int)))=true then(some true) else(if(decide ((12:Int)<(List.length a0.2.2.2.2.1:Int)))=true then(some true) else(some (decide ((12:Int)<(List.length a0.2.2.2.2.2.1:Int)))))) fun v2=>if v2=true then(cU (some (130:Int))) else(some (.aX a0))) fun v1=>aI (U:=Unit) (yL (Int.toNat (List.length v1.2.2.2.2.2.1:Int)+1) (v1.2.2.2.2.2.1,(List.length v1.2.2.2.2.2.1:Int),0,v1)) fun _=>some (0:Int)
def afd:SS:=⟨35,75,[tP 1 17],[(17,bV aR)],[]⟩
def afe:SS:=⟨35,75,[],[],[]⟩
def aff:SS:=⟨35,75,[tP 1 17,(22,.val (.slice 72 iD)),tI 23,tI 24],[(17,bV aR)],[]⟩
def afg:SS:=⟨35,75,[tI 2],[],[]⟩
def c90:bG:=aG G [.tmp 2] 90 [.val aR] [] 75 afg [] (.bY (u1 f90))
theorem x90:hS c90:=
 cO ⟨[hD 1 20 [],hA 6 0],[(3,afd),(9,afe)],[],[(4,⟨aff,fun u4=>Int.toNat u4.2.1+1⟩)],[],[]⟩ (hq afc hz) aJ Tryz.call90 Tryz.func90
def Hp:Nat→Zn×ZP→Option (dR Unit Int):=aL fun aoK ⟨c,b,a⟩=>if(decide (a<b))=true then(if 0≤a then(if a<(List.length c:Int) then(Option.bind (f90 (nth aR c a)) fun y4=>if(!decide (y4=(0:Int)))=true then(cU (some y4)) else(aoK (c,b,aV (a+1)))) else none) else none) else(some (.aX ()))
def f56(a0:bD):ZW:=
 aI (U:=Unit) (Hp (Int.toNat (List.length a0.2.2.1:Int)+1) (a0.2.2.1,(List.length a0.2.2.1:Int),0)) fun _=>some (0:Int)
def afi:SS:=⟨19,59,[],[],[]⟩
def afj:SS:=⟨19,59,[(7,.val (.slice 96 aR)),tI 8,tI 9],[],[]⟩
def afk:SS:=⟨19,59,[tI 2],[],[]⟩
def c56:bG:=aG G [.tmp 2] 56 [.val eN] [] 59 afk [] (.bY (u1 f56))
theorem x56:hS c56:=
 cO ⟨[hA 4 0],[(8,afi)],[],[(2,⟨afj,fun u2=>Int.toNat u2.2.1+1⟩)],[],[]⟩ (hq x90 hz) aJ Tryz.call56 Tryz.func56
def uu(a0:Int)(a1:Int)(a2:ZR):Option (Bool×ZR):=
 Option.bind (α:=Bool) (if(decide ((0:Int)≤a1))=true then(some (decide (a1<a0))) else(some false)) fun v1=>some (v1,a2)
def afl:SS:=⟨13,53,[(4,vB)],[(0,.pmap (.int .i64) (.map (.int .i64) .bool) 0)],[]⟩
def Qq:bG:=aG G [.tmp 4] 152 [.cons vI (.cons (.mp 0) .nil),vI] [(0,.pmap (.int .i64) (.map (.int .i64) .bool) 0)] 53 afl [0] (.bY (u3 uu))
theorem Qr:hS Qq:=
 cO (hR [hD 1 4 []]) hz aJ Tryz.call152 Tryz.func152
def sy:Nat→Zl×Int×Int×ZA×Int×Int×Int×eQ×ZR→Option (dR (Zl×Int×Int×Int×ZR) (dR (Int×ZR) (Int×gN))):=aL fun rec8 ⟨i,j,k,e,d,c,f,h,g⟩=>if(decide (c<d))=true then(if 0≤c then(if c<(List.length e:Int) then(Option.bind (uu f (nth bE e c).2.2.1 g) fun⟨a,b⟩=>if(!a)=true then(cU (cU (some (140,0,(none:Option ZR),())))) else(if ek (.int .i64) h.2.1 b=true then(if bN (.int .i64) h.2.1 h.2.1=true then(if List.length (bC (aO (.int .i64) (.map (.int .i64) .bool) h.2.1 b))+1≤aF then(rec8 (i,j,k,e,d,aV (c+1),f,h,bJ (.int .i64) h.2.1 (some (bJ (.int .i64) (nth bE e c).2.2.1 true (bC (aO (.int .i64) (.map (.int .i64) .bool) h.2.1 b)))) b)) else none) else none) else none)) else none) else none) else(some (.aX (i,j,k,f,g)))
def vU:Nat→Zl×Int×Int×Int×ZR→Option (dR (Int×ZR) (Int×gN)):=aL fun aoK ⟨p,o,n,q,r⟩=>if(decide (n<o))=true then(aI (U:=Zl×Int×Int×Int×ZR) (if 0≤n then(if n<(List.length p:Int) then(Option.bind (uu q (nth bW p n).2.1 r) fun⟨a,b⟩=>if(!a)=true then(cU (cU (some (140,0,(none:Option ZR),())))) else(aI (U:=Zl×Int×Int×Int×eQ×ZR) (if(!(ek (.int .i64) (nth bW p n).2.1 b))=true then(if ek (.int .i64) (nth bW p n).2.1 b=false then(if bN (.int .i64) (nth bW p n).2.1 (nth bW p n).2.1=true then(if List.length b+1≤aF then(some (.aX (p,o,n,q,nth bW p n,bJ (.int .i64) (nth bW p n).2.1 (some ([]:Zr)) (bJ (.int .i64) (nth bW p n).2.1 (Ty.aH (.map (.int .i64) .bool)) b)))) else none) else none) else none) else(some (.aX (p,o,n,q,nth bW p n,b)))) fun⟨d,e,f,g,c,h⟩=>sy (Int.toNat (List.length c.2.2.1:Int)+1) (d,e,f,c.2.2.1,(List.length c.2.2.1:Int),0,g,c,h))) else none) else none) fun⟨i,j,k,l,m⟩=>aoK (i,j,aV (k+1),l,m)) else(some (.aX (q,r)))
def Yx(a0:bD):Option (Int×gN):=
 aI (U:=Int×ZR) (vU (Int.toNat (List.length a0.2.2.2.1:Int)+1) (a0.2.2.2.1,(List.length a0.2.2.2.1:Int),0,(List.length a0.2.2.1:Int),([]:ZR))) fun⟨a,b⟩=>some (0,a,some b,())
def afm:SS:=⟨60,100,[tP 2 18,tP 5 21,(14,.val (.slice 96 bW)),tI 15,tI 16],[(18,.var qS (.cons vI (.cons (.mp 27) .nil))),(21,bV bW),(27,.pmap (.int .i64) (.map (.int .i64) .bool) 0)],[]⟩
def Yy:SS:=⟨60,100,[tP 2 18,(14,.val (.slice 96 bW)),tI 15,tI 16],[(18,.var qS (.cons vI (.cons (.mp 27) .nil))),(27,.pmap (.int .i64) (.map (.int .i64) .bool) 0)],[]⟩
def afn:SS:=⟨60,100,[tP 2 18],[(18,.var qS (.cons vI (.cons (.mp 27) .nil))),(27,.pmap (.int .i64) (.map (.int .i64) .bool) 0)],[]⟩
def afo:SS:=⟨60,100,[tP 2 18,tP 5 21,(14,.val (.slice 96 bW)),tI 15,tI 16,(38,.val (.slice 96 bE)),tI 39,tI 40],[(18,.var qS (.cons vI (.cons (.mp 27) .nil))),(21,bV bW),(27,.pmap (.int .i64) (.map (.int .i64) .bool) 0)],[]⟩
def afp:SS:=⟨60,100,[tP 2 18,tI 3],[(18,bV qS)],[]⟩
def c94:bG:=aG G [.cell 2 202,.tmp 3] 94 [.val eN] [] 100 afp [] (.bY (u1 Yx))
theorem x94:hS c94:=
 cO ⟨[(2,⟨[.NK 27 0],[],[],none,[],[],[]⟩),hE 5 [cB 0 [(0,27)] []],(8,⟨[],[],[],none,[],[.map 0 27 0 (.c 5 [.dX 1])],[.qJ 27]⟩),hE 12 [cB 0 [(0,27)] []],(14,⟨[],[],[],none,[],[.map 1 27 76 (.c 5 [.dX 1])],[.qJ 27]⟩),(17,⟨[.Mn 27],[],[],none,[],[],[]⟩)],[(9,afm),(16,Yy),(17,afn)],[],[(3,⟨Yy,fun u2=>Int.toNat u2.2.1+1⟩),(10,⟨afo,fun u7=>Int.toNat u7.2.2.2.2.1+1⟩)],[],[]⟩ (hq Qr hz) aJ Tryz.call94 Tryz.func94
def Hq(a0:gN):Option gN:=
 some a0
def afq:SS:=⟨4,44,[(2,.func 154 .nil (.cons (pP 17) .nil))],[(17,bV qS)],[]⟩
def Vs:bG:=aG G [.tmp 2] 96 [.val qS] [] 44 afq [17] (.bY (u1 Hq))
theorem Vt:hS Vs:=
 cO (hR []) hz aJ Tryz.call96 Tryz.func96
def o9:Nat→Int×Int×Int×gN×ZX×Zr→Option (dR (Int×Int×gN×ZX) (dR ZX ZX)):=aL fun rec6 ⟨f,b,c,d,e,a⟩=>if List.isEmpty a=true then(some (.aX (b,c,d,e))) else LX a fun x7 l8=>if 0≤x7.1 then(if x7.1<(List.length e:Int) then(if 0≤x7.1 then(if Int.toNat x7.1=(Int.toNat x7.1) then(if(List.length (List.getD e (Int.toNat x7.1) [])+List.length [f])*8≤aF then(if 0≤x7.1 then(if Int.toNat x7.1=(Int.toNat x7.1) then(rec6 (f,b,c,d,List.set e (Int.toNat x7.1) ((List.getD e (Int.toNat x7.1) [])++[f]),l8)) else none) else none) else none) else none) else none) else none) else none
def pa:Nat→Int×Int×gN×ZX→Option (dR ZX ZX):=aL fun aoK ⟨f,e,g,h⟩=>if(decide (e<f))=true then(aI (U:=Int×Int×gN×ZX) (o9 (List.length (bC (aO (.int .i64) (.map (.int .i64) .bool) e (bC g.2.1)))+1) (e,f,e,g,h,bC (aO (.int .i64) (.map (.int .i64) .bool) e (bC g.2.1)))) fun⟨a,b,c,d⟩=>aoK (a,aV (b+1),c,d)) else(some (.aX h))
def Ev(a0:gN):Option ZX:=
 if 0≤a0.1 then(if a0.1≤a0.1 then(if a0.1*(24:Int)≤(aF:Int) then(aI (U:=ZX) (pa (Int.toNat a0.1+1) (a0.1,0,a0,List.replicate (Int.toNat a0.1) [])) fun v1=>some v1) else none) else none) else none
def Yz:SS:=⟨35,75,[tP 1 17,(3,.own 24),tI 10,tI 11],[(17,bV qS),(24,.eS 30 24 (.slice 8 (.int .i64)) 3)],[]⟩
def afr:SS:=⟨35,75,[(3,.own 24)],[(24,.eS 30 24 (.slice 8 (.int .i64)) 3)],[]⟩
def afs:SS:=⟨35,75,[tP 1 17,(3,.own 24),tI 4,tI 10,tI 11,tP 18 34],[(17,bV qS),(24,.eS 30 24 (.slice 8 (.int .i64)) 3),(34,.qN (.int .i64) .bool)],[]⟩
def aft:SS:=⟨35,75,[(2,.val (.slice 24 (.slice 8 (.int .i64))))],[],[]⟩
def YA:bG:=aG G [.tmp 2] 155 [.val qS] [] 75 aft [] (.bY (u1 Ev))
theorem afu:hS YA:=
 cO ⟨[(8,⟨[],[],[],none,[],[.row 24 51 (.t 5)],[.uX 24]⟩),(10,⟨[.Mn 24],[],[],none,[],[],[]⟩)],[(9,Yz),(10,afr)],[],[(3,⟨Yz,fun u2=>Int.toNat u2.1+1⟩),(6,⟨afs,fun u5=>List.length u5.2.2.2.2.2+1⟩)],[],[]⟩ hz aJ Tryz.call155 Tryz.func155
def uv(a0:Zd):Option (Int×Zd):=
 some ((List.length a0:Int),a0)
def afv:SS:=⟨5,45,[tI 2],[(0,.row 3 8 (.int .i64))],[]⟩
def Qs:bG:=aG G [.tmp 2] 157 [.own 0] [(0,.row 3 8 (.int .i64))] 45 afv [0] (.bY (u1 uv))
theorem Jq:hS Qs:=
 cO (hR []) hz aJ Tryz.call157 Tryz.func157
def pb(a0:Int)(a1:Int)(a2:Zd):Option (Bool×Zd):=
 if 0≤a0 then(if a0<(List.length a2:Int) then(if 0≤a1 then(if a1<(List.length a2:Int) then(some (decide ((nth (.int .i64) a2 a0)<(nth (.int .i64) a2 a1)),a2)) else none) else none) else none) else none
def afw:SS:=⟨16,56,[(6,vB)],[(0,.row 3 8 (.int .i64))],[]⟩
def Qt:bG:=aG G [.tmp 6] 265 [.own 0,vI,vI] [(0,.row 3 8 (.int .i64))] 56 afw [0] (.bY (u3 pb))
theorem Jr:hS Qt:=
 cO (hR []) hz aJ Tryz.call265 Tryz.func265
def nN(a0:Int)(a1:Int)(a2:Zd):Option Zd:=
 if 0≤a1 then(if a1<(List.length a2:Int) then(if 0≤a0 then(if a0<(List.length a2:Int) then(if 0≤a0 then(if a0<(List.length a2:Int) then(if 0≤a1 then(if a1<(List.length (List.set a2 (Int.toNat a0) (nth (.int .i64) a2 a1)):Int) then(some (List.set (List.set a2 (Int.toNat a0) (nth (.int .i64) a2 a1)) (Int.toNat a1) (nth (.int .i64) a2 a0))) else none) else none) else none) else none) else none) else none) else none) else none
def afx:SS:=⟨20,60,[],[(0,.row 3 8 (.int .i64))],[]⟩
def Qu:bG:=aG G [] 269 [.own 0,vI,vI] [(0,.row 3 8 (.int .i64))] 60 afx [0] (.bY (u3 nN))
theorem Cj:hS Qu:=
 cO (hR []) hz aJ Tryz.call269 Tryz.func269
def tK:Nat→Int×Zd→Option (dR Zd Zd):=aL fun aoK ⟨c,d⟩=>if(decide ((aV (Int.tdiv (aV (c -(1:Int))) (2:Int)))=c))=true then(some (.aX d)) else(Option.bind (pb c (aV (Int.tdiv (aV (c -(1:Int))) (2:Int))) d) fun⟨a,b⟩=>if(!a)=true then(some (.aX b)) else(Option.bind (nN (aV (Int.tdiv (aV (c -(1:Int))) (2:Int))) c b) fun y5=>aoK (aV (Int.tdiv (aV (c -(1:Int))) (2:Int)),y5)))
def Ck(a0:Int)(a1:Zd):Option Zd:=
 aI (U:=Zd) (tK dG (a0,a1)) fun v1=>some v1
def YB:SS:=⟨23,63,[],[(0,.var mr (.cons (.own 1) .nil)),(1,.row 3 8 (.int .i64))],[]⟩
def afy:SS:=⟨23,63,[(0,.iface 281 (pP 0)),tI 1],[(0,.var mr (.cons (.own 1) .nil)),(1,.row 3 8 (.int .i64))],[]⟩
def Qv:bG:=aG G [] 229 [.iface 281 (pP 0),vI] [(0,.var mr (.cons (.own 1) .nil)),(1,.row 3 8 (.int .i64))] 63 YB [0,1] (.bY (u2 Ck))
theorem Qw:hS Qv:=
 cO ⟨[hE 1 [cB 0 [(0,1)] []],hE 2 [cB 1 [(0,1)] []]],[],[(0,YB)],[(0,⟨afy,fun _=>dG⟩)],[],[]⟩ (hq Jr (hq Cj hz)) aJ Tryz.call229 Tryz.func229
def Cn(a0:Int)(a1:Zd):Option Zd:=
 if(List.length a1+List.length [a0])*8≤aF then(some (a1++[a0])) else none
def afz:SS:=⟨22,62,[],[(0,.var mr (.cons (.own 35) .nil)),(35,.row 3 8 (.int .i64))],[]⟩
def Qx:bG:=aG G [] 267 [pP 0,.iface 3 vI] [(0,.var mr (.cons (.own 1) .nil)),(1,.row 3 8 (.int .i64))] 62 afz [0,35] (.bY (u2 Cn))
theorem Qz:hS Qx:=
 cO (hR []) hz aJ Tryz.call267 Tryz.func267
def uw(a0:Int)(a1:Zd):Option Zd:=
 Option.bind (Cn a0 a1) fun y1=>Option.bind (uv y1) fun⟨a,b⟩=>Option.bind (Ck (aV (a -(1:Int))) b) fun y3=>some y3
def afA:SS:=⟨12,52,[],[(0,.var mr (.cons (.own 22) .nil)),(22,.row 3 8 (.int .i64))],[]⟩
def Js:bG:=aG G [] 156 [.iface 281 (pP 0),.iface 3 vI] [(0,.var mr (.cons (.own 1) .nil)),(1,.row 3 8 (.int .i64))] 52 afA [0,22] (.bY (u2 uw))
theorem QA:hS Js:=
 cO (hR [hE 0 [cB 0 [(0,0),(1,1)] [(35,22)]],hE 1 [cB 1 [(0,22)] [],cB 2 [(0,0),(1,22)] []]]) (hq Qz (hq Jq (hq Qw hz))) aJ Tryz.call156 Tryz.func156
def AX(a0:Zd):ZW:=
 some (List.length a0:Int)
def afB:SS:=⟨5,45,[tI 2],[],[]⟩
def YD:bG:=aG G [.tmp 2] 157 [.val (.slice 8 (.int .i64))] [] 45 afB [] (.bY (u1 AX))
theorem afC:hS YD:=
 cO (hR []) hz aJ Tryz.call157 Tryz.func157
end Go.Proofs.YtkhfnbfpgcjllaaGreatDoor
