/- part -/
import Derived.Test.YtkhfnbfpgcjllaaGreatDoorF4
noncomputable section
namespace Go.Proofs.YtkhfnbfpgcjllaaGreatDoor
open Go.Ax
def Hj:Nat→Zl×Zl×ZP→Zu:=aL fun aoP ⟨d,c,b,a⟩=>if(decide (a<b))=true then(if 0≤a then(if a<(List.length c:Int) then(if 0≤a then(if a<(List.length d:Int) then(Option.bind (Pu (nth bX c a) (nth bX d a)) fun y4=>if(!y4)=true then(cN (some false)) else(aoP (d,c,b,aQ (a+1)))) else none) else none) else none) else none) else(some (.aS ()))
def B9(a0:Zl)(a1:Zl):Zm:=
 if(!decide ((List.length a0:Int)=(List.length a1:Int)))=true then(some false) else(aG (U:=Unit) (Hj (Int.toNat (List.length a0:Int)+1) (a1,a0,(List.length a0:Int),0)) fun _=>some true)
def adv:SS:=⟨32,72,[(1,.val (.slice 96 bX)),(2,.func 102 .nil .nil),(15,.val (.slice 96 bX)),tI 16,tI 17],[],[]⟩
def PK:bH:=aI G [.tmp 6] 101 [.val (.slice 96 bX),.val (.slice 96 bX),.func 102 .nil .nil] [] 72 Uq [] (.bZ (u2 B9))
theorem PN:hS PK:=
 cO ⟨[hA 7 0],[(10,Up)],[],[(4,⟨adv,fun u2=>Int.toNat u2.2.2.1+1⟩)],[],[]⟩ (hq alP hz) aJ Tryz.call101 Tryz.func101
def PO:Nat→Zw×Zw×ZP→Zu:=aL fun aoP ⟨c,d,b,a⟩=>if(decide (a<b))=true then(if 0≤a then(if a<(List.length c:Int) then(if 0≤a then(if a<(List.length d:Int) then(if(!bM bB (nth bB c a) (nth bB d a))=true then(cN (some false)) else(aoP (c,d,b,aQ (a+1)))) else none) else none) else none) else none) else(some (.aS ()))
def Vg(a0:Zw)(a1:Zw):Zm:=
 if(!decide ((List.length a0:Int)=(List.length a1:Int)))=true then(some false) else(aG (U:=Unit) (PO (Int.toNat (List.length a0:Int)+1) (a0,a1,(List.length a0:Int),0)) fun _=>some true)
def adw:bH:=aI G [.tmp 4] 166 [.val (.slice 56 bB),.val (.slice 56 bB)] [] 66 Gx [] (.bZ (u2 Vg))
theorem adx:hS adw:=
 cO ⟨[],[(9,Gw)],[],[(4,⟨abQ,fun u2=>Int.toNat u2.2.2.1+1⟩)],[],[]⟩ hz aJ Tryz.call166 Tryz.func166
def Mx(a0:wP)(a1:wP):Zm:=
 Option.bind (α:=Bool) (if(decide (a0.1=a1.1))=true then(if(decide (a0.2.1=a1.2.1))=true then(if(decide (a0.2.2.1=a1.2.2.1))=true then(if(decide (a0.2.2.2.1=a1.2.2.2.1))=true then(Option.bind (Vg a0.2.2.2.2.1 a1.2.2.2.2.1) fun y1=>some y1) else(some false)) else(some false)) else(some false)) else(some false)) fun v2=>some v2
def ady:SS:=⟨38,78,[(4,vB)],[],[]⟩
def adz:bH:=aI G [.tmp 4] 104 [.val iU,.val iU] [] 78 ady [] (.bZ (u2 Mx))
theorem adA:hS adz:=
 cO (hR [hD 1 4 [cA 0]]) (hq adx hz) aJ Tryz.call104 Tryz.func104
def Hk:Nat→ZC×ZC×ZP→Zu:=aL fun aoP ⟨d,c,b,a⟩=>if(decide (a<b))=true then(if 0≤a then(if a<(List.length c:Int) then(if 0≤a then(if a<(List.length d:Int) then(Option.bind (Mx (nth iU c a) (nth iU d a)) fun y4=>if(!y4)=true then(cN (some false)) else(aoP (d,c,b,aQ (a+1)))) else none) else none) else none) else none) else(some (.aS ()))
def Ca(a0:ZC)(a1:ZC):Zm:=
 if(!decide ((List.length a0:Int)=(List.length a1:Int)))=true then(some false) else(aG (U:=Unit) (Hk (Int.toNat (List.length a0:Int)+1) (a1,a0,(List.length a0:Int),0)) fun _=>some true)
def adB:SS:=⟨32,72,[(1,.val (.slice 72 iU)),(2,.func 104 .nil .nil),(15,.val (.slice 72 iU)),tI 16,tI 17],[],[]⟩
def PQ:bH:=aI G [.tmp 6] 103 [.val (.slice 72 iU),.val (.slice 72 iU),.func 104 .nil .nil] [] 72 Uq [] (.bZ (u2 Ca))
theorem PR:hS PQ:=
 cO ⟨[hA 7 0],[(10,Up)],[],[(4,⟨adB,fun u2=>Int.toNat u2.2.2.1+1⟩)],[],[]⟩ (hq adA hz) aJ Tryz.call103 Tryz.func103
def PT:Nat→List np×List np×ZP→Zu:=aL fun aoP ⟨c,d,b,a⟩=>if(decide (a<b))=true then(if 0≤a then(if a<(List.length c:Int) then(if 0≤a then(if a<(List.length d:Int) then(if(!bM iK (nth iK c a) (nth iK d a))=true then(cN (some false)) else(aoP (c,d,b,aQ (a+1)))) else none) else none) else none) else none) else(some (.aS ()))
def Vh(a0:List np)(a1:List np):Zm:=
 if(!decide ((List.length a0:Int)=(List.length a1:Int)))=true then(some false) else(aG (U:=Unit) (PT (Int.toNat (List.length a0:Int)+1) (a0,a1,(List.length a0:Int),0)) fun _=>some true)
def adC:SS:=⟨26,66,[(0,.val (.slice 48 iK)),(1,.val (.slice 48 iK)),tI 12,tI 13],[],[]⟩
def adD:bH:=aI G [.tmp 4] 167 [.val (.slice 48 iK),.val (.slice 48 iK)] [] 66 Gx [] (.bZ (u2 Vh))
theorem adE:hS adD:=
 cO ⟨[],[(9,Gw)],[],[(4,⟨adC,fun u2=>Int.toNat u2.2.2.1+1⟩)],[],[]⟩ hz aJ Tryz.call167 Tryz.func167
def My(a0:tq)(a1:tq):Zm:=
 Option.bind (α:=Bool) (if(decide (a0.1=a1.1))=true then(if(decide (a0.2.2.1=a1.2.2.1))=true then(Option.bind (Vh a0.2.1 a1.2.1) fun y1=>some y1) else(some false)) else(some false)) fun v2=>some v2
def adF:SS:=⟨24,64,[(4,vB)],[],[]⟩
def adG:bH:=aI G [.tmp 4] 106 [.val fv,.val fv] [] 64 adF [] (.bZ (u2 My))
theorem adH:hS adG:=
 cO (hR [hD 1 4 [cA 0]]) (hq adE hz) aJ Tryz.call106 Tryz.func106
def Hl:Nat→Zz×Zz×ZP→Zu:=aL fun aoP ⟨d,c,b,a⟩=>if(decide (a<b))=true then(if 0≤a then(if a<(List.length c:Int) then(if 0≤a then(if a<(List.length d:Int) then(Option.bind (My (nth fv c a) (nth fv d a)) fun y4=>if(!y4)=true then(cN (some false)) else(aoP (d,c,b,aQ (a+1)))) else none) else none) else none) else none) else(some (.aS ()))
def Cb(a0:Zz)(a1:Zz):Zm:=
 if(!decide ((List.length a0:Int)=(List.length a1:Int)))=true then(some false) else(aG (U:=Unit) (Hl (Int.toNat (List.length a0:Int)+1) (a1,a0,(List.length a0:Int),0)) fun _=>some true)
def adI:SS:=⟨32,72,[(1,.val (.slice 48 fv)),(2,.func 106 .nil .nil),(15,.val (.slice 48 fv)),tI 16,tI 17],[],[]⟩
def PU:bH:=aI G [.tmp 6] 105 [.val (.slice 48 fv),.val (.slice 48 fv),.func 106 .nil .nil] [] 72 Uq [] (.bZ (u2 Cb))
theorem PW:hS PU:=
 cO ⟨[hA 7 0],[(10,Up)],[],[(4,⟨adI,fun u2=>Int.toNat u2.2.2.1+1⟩)],[],[]⟩ (hq adH hz) aJ Tryz.call105 Tryz.func105
def Ys(a0:bF)(a1:bF):Zm:=
 Option.bind (α:=Bool) (Option.bind (UW a0.1 a1.1) fun y1=>if y1=true then(Option.bind (f98 a0.2.1 a1.2.1) fun y2=>if y2=true then(Option.bind (Js a0.2.2.1 a1.2.2.1) fun y3=>if y3=true then(Option.bind (B9 a0.2.2.2.1 a1.2.2.2.1) fun y4=>if y4=true then(Option.bind (Ca a0.2.2.2.2.1 a1.2.2.2.2.1) fun y5=>if y5=true then(Option.bind (Cb a0.2.2.2.2.2.1 a1.2.2.2.2.2.1) fun y6=>some y6) else(some false)) else(some false)) else(some false)) else(some false)) else(some false)) fun v7=>some v7
def adJ:SS:=⟨45,85,[(4,vB)],[],[]⟩
def c60:bH:=aI G [.tmp 4] 60 [.val eR,.val eR] [] 85 adJ [] (.bZ (u2 Ys))
theorem x60:hS c60:=
 cO (hR [hD 1 4 [cA 0,cA 1,cA 2,cA 3,cA 4,cA 5]]) (hq x97 (hq x98 (hq XH (hq PN (hq PR (hq PW hz)))))) aJ Tryz.call60 Tryz.func60
def f54(a0:bF):Dm:=
 Option.bind (f69 a0) fun⟨b,a⟩=>if(!decide (a=(0:Int)))=true then(some a) else(Option.bind (Ys b a0) fun y2=>if(!y2)=true then(some (160:Int)) else(some (0:Int)))
def adK:SS:=⟨16,56,[tI 2],[],[]⟩
def c54:bH:=aI G [.tmp 2] 54 [.val eR] [] 56 adK [] (.bZ (u1 f54))
theorem x54:hS c54:=
 cO (hR [hA 1 0,hA 4 1]) (hq x69 (hq x60 hz)) aJ Tryz.call54 Tryz.func54
def Vi(a0:tq):Zm:=
 some (decide ((64:Int)<(List.length a0.2.1:Int)))
def adL:SS:=⟨7,47,[(2,vB)],[],[]⟩
def adM:bH:=aI G [.tmp 2] 137 [.val fv] [] 47 adL [] (.bZ (u1 Vi))
theorem adN:hS adM:=
 cO (hR []) hz aJ Tryz.call137 Tryz.func137
def Hm:Nat→Zz×ZP→Option (dN Unit Int):=aL fun aoP ⟨c,b,a⟩=>if(decide (a<b))=true then(if 0≤a then(if a<(List.length c:Int) then(Option.bind (Vi (nth fv c a)) fun y4=>if y4=true then(cN (some a)) else(aoP (c,b,aQ (a+1)))) else none) else none) else(some (.aS ()))
def Cc(a0:Zz):Dm:=
 aG (U:=Unit) (Hm (Int.toNat (List.length a0:Int)+1) (a0,(List.length a0:Int),0)) fun _=>some (-1:Int)
def adO:SS:=⟨19,59,[],[],[]⟩
def adP:SS:=⟨19,59,[(0,.val (.slice 48 fv)),(1,.func 137 .nil .nil),tI 7,tI 8],[],[]⟩
def adQ:SS:=⟨19,59,[tI 4],[],[]⟩
def PX:bH:=aI G [.tmp 4] 221 [.val (.slice 48 fv),.func 137 .nil .nil] [] 59 adQ [] (.bZ (u1 Cc))
theorem PY:hS PX:=
 cO ⟨[hA 4 0],[(7,adO)],[],[(2,⟨adP,fun u2=>Int.toNat u2.2.1+1⟩)],[],[]⟩ (hq adN hz) aJ Tryz.call221 Tryz.func221
def xW(a0:Zz):Zm:=
 Option.bind (Cc a0) fun y1=>some (decide ((0:Int)≤y1))
def Mz:SS:=⟨9,49,[(4,vB)],[],[]⟩
def PZ:bH:=aI G [.tmp 4] 136 [.val (.slice 48 fv),.func 137 .nil .nil] [] 49 Mz [] (.bZ (u1 xW))
theorem P0:hS PZ:=
 cO (hR [hA 1 0]) (hq PY hz) aJ Tryz.call136 Tryz.func136
def f80(a0:kU):Zm:=
 Option.bind (α:=Bool) (if(decide ((8:Int)<(List.length a0.1.1:Int)))=true then(some true) else(if(decide ((64:Int)<(List.length a0.1.2.1:Int)))=true then(some true) else(if(decide ((16:Int)<(List.length a0.1.2.2.1:Int)))=true then(some true) else(if(decide ((16:Int)<(List.length a0.1.2.2.2.1:Int)))=true then(some true) else(if(decide ((16:Int)<(List.length a0.1.2.2.2.2.1:Int)))=true then(some true) else(some (decide ((8:Int)<(List.length a0.1.2.2.2.2.2.1:Int))))))))) fun v1=>if v1=true then(some false) else(Option.bind (xW a0.1.2.2.2.2.2.1) fun y2=>some (!y2))
def adR:SS:=⟨48,88,[(2,vB)],[],[]⟩
def c80:bH:=aI G [.tmp 2] 80 [.val lS] [] 88 adR [] (.bZ (u1 f80))
theorem x80:hS c80:=
 cO (hR [hD 1 42 [],hA 3 0]) (hq P0 hz) aJ Tryz.call80 Tryz.func80
def Uw(a0:kU)(a1:gQ):Zm:=
 Option.bind (α:=Bool) (if(decide ((1:Int)≤a1.2.2.2.2.1))=true then(if(decide (a1.2.2.2.2.1≤(1099511627776:Int)))=true then(if(decide ((0:Int)≤a1.2.2.2.1))=true then(if(decide (a1.2.2.2.1<(List.length a0.1.2.1:Int)))=true then(if 0≤a1.2.2.2.1 then(if a1.2.2.2.1<(List.length a0.1.2.1:Int) then(some (decide ((nth bB a0.1.2.1 a1.2.2.2.1).2.2.2.2.1=(1:Int)))) else none) else none) else(some false)) else(some false)) else(some false)) else(some false)) fun v1=>some v1
def adS:SS:=⟨38,78,[(4,vB)],[],[]⟩
def c84:bH:=aI G [.tmp 4] 84 [.val lS,.val bB] [] 78 adS [] (.bZ (u2 Uw))
theorem x84:hS c84:=
 cO (hR [hD 1 4 []]) hz aJ Tryz.call84 Tryz.func84
def uC(a0:gQ)(a1:kU):UB:=
 Option.bind (Uw a1 a0) fun y1=>some (!y1,a1)
def adT:SS:=⟨8,48,[(3,vB)],[(0,.var (.aY .func) (.fm 84 lS))],[]⟩
def P1:bH:=aI G [.tmp 3] 143 [.val bB,pP 0] [(0,.var (.aY .func) (.fm 84 lS))] 48 adT [0] (.bZ (u2 uC))
theorem P2:hS P1:=
 cO (hR [hA 1 0]) (hq x84 hz) aJ Tryz.call143 Tryz.func143
def Hn:Nat→Zw×Int×GJ→Option (dN kU GJ):=aL fun aoP ⟨e,d,c,f⟩=>if(decide (c<d))=true then(if 0≤c then(if c<(List.length e:Int) then(Option.bind (uC (nth bB e c) f) fun⟨a,b⟩=>if a=true then(cN (some (c,b))) else(aoP (e,d,aQ (c+1),b))) else none) else none) else(some (.aS f))
def Cd(a0:Zw)(a1:kU):Option GJ:=
 aG (U:=kU) (Hn (Int.toNat (List.length a0:Int)+1) (a0,(List.length a0:Int),0,a1)) fun v1=>some ((-1:Int),v1)
def adU:SS:=⟨19,59,[],[(0,.var (.aY .func) (.fm 84 lS))],[]⟩
def adV:SS:=⟨19,59,[(0,.val (.slice 56 bB)),(1,.func 143 .nil (.cons (pP 0) .nil)),tI 7,tI 8],[(0,.var (.aY .func) (.fm 84 lS))],[]⟩
def adW:SS:=⟨19,59,[tI 4],[(0,.var (.aY .func) (.fm 84 lS))],[]⟩
def P3:bH:=aI G [.tmp 4] 225 [.val (.slice 56 bB),.func 143 .nil (.cons (pP 0) .nil)] [(0,.var (.aY .func) (.fm 84 lS))] 59 adW [0] (.bZ (u2 Cd))
theorem P4:hS P3:=
 cO ⟨[hE 4 [cB 0 [(0,0)] []]],[(7,adU)],[],[(2,⟨adV,fun u2=>Int.toNat u2.2.1+1⟩)],[],[]⟩ (hq P2 hz) aJ Tryz.call225 Tryz.func225
def Ce(a0:Zw)(a1:kU):UB:=
 Option.bind (Cd a0 a1) fun⟨a,b⟩=>some (decide ((0:Int)≤a),b)
def adX:SS:=⟨9,49,[(4,vB)],[(0,.var (.aY .func) (.fm 84 lS))],[]⟩
def P5:bH:=aI G [.tmp 4] 142 [.val (.slice 56 bB),.func 143 .nil (.cons (pP 0) .nil)] [(0,.var (.aY .func) (.fm 84 lS))] 49 adX [0] (.bZ (u2 Ce))
theorem P6:hS P5:=
 cO (hR [hE 1 [cB 0 [(0,0)] []]]) (hq P4 hz) aJ Tryz.call142 Tryz.func142
def Cf(a0:Zw)(a1:kU):Zm:=
 Option.bind (Ce a0 a1) fun⟨a,_⟩=>some (!a)
def Vj:bH:=aI G [.tmp 4] 83 [.val (.slice 56 bB),.fm 84 lS] [] 49 Mz [] (.bZ (u2 Cf))
theorem Vk:hS Vj:=
 cO (hR [hE 1 [cB 0 [(0,19)] []]]) (hq P6 hz) aJ Tryz.call83 Tryz.func83
def Vl:Option (List (Option Nat)):=
 some [none,some 75,some 76,some 77,some 78]
def adY:SS:=⟨2,42,[tP 0 16],[(16,.var (.fns 5) (.val (.fns 5)))],[]⟩
def Vm:bH:=aI G [.cell 0 148] 53 [] [] 42 adY [] (.bZ (fun _=>Vl))
theorem Vn:hS Vm:=
 cO (hR []) hz aJ Tryz.call53 Tryz.func53
def Ho:Nat→Zs×Int×Int×List (Zf×Bool)→Zu:=aL fun aoP ⟨c,b,a,d⟩=>if(decide (a<b))=true then(if 0≤a then(if a<(List.length c:Int) then(if(aO .str .bool (nth .str c a) d)=true then(cN (some false)) else(if List.length d+1≤aF then(aoP (c,b,aQ (a+1),bK .str (nth .str c a) true d)) else none)) else none) else none) else(some (.aS ()))
def f79(a0:Zs):Zm:=
 aG (U:=Unit) (Ho (Int.toNat (List.length a0:Int)+1) (a0,(List.length a0:Int),0,([]:List (Zf×Bool)))) fun _=>some true
def ad0:SS:=⟨21,61,[],[],[]⟩
def ad1:SS:=⟨21,61,[(3,.mp 24),(9,.val (.slice 16 .str)),tI 10,tI 11],[(24,.map .str .bool)],[]⟩
def ad2:SS:=⟨21,61,[(2,vB)],[],[]⟩
def c79:bH:=aI G [.tmp 2] 79 [.val (.slice 16 .str)] [] 61 ad2 [] (.bZ (u1 f79))
theorem x79:hS c79:=
 cO ⟨[],[(9,ad0)],[],[(3,⟨ad1,fun u2=>Int.toNat u2.2.1+1⟩)],[],[]⟩ hz aJ Tryz.call79 Tryz.func79
def GC(a0:jx)(_a1:Int):Zm:=
 Option.bind (α:=Bool) (if(decide (a0.2.1=(0:Int)))=true then(if(decide (a0.2.2.1=(aQ ((List.length a0.2.2.2.2.2.1:Int) -(1:Int)))))=true then(if(decide (a0.2.2.2.2.1=(-1:Int)))=true then(if(decide ((1:Int)≤(List.length a0.2.2.2.2.2.1:Int)))=true then(if(decide ((List.length a0.2.2.2.2.2.1:Int)≤(16:Int)))=true then(Option.bind (f79 a0.2.2.2.2.2.1) fun y1=>some y1) else(some false)) else(some false)) else(some false)) else(some false)) else(some false)) fun v2=>some v2
def ad3:SS:=⟨39,79,[(4,vB)],[],[]⟩
def c78:bH:=aI G [.tmp 4] 78 [.val qS,vI] [] 79 ad3 [] (.bZ (u2 GC))
theorem x78:hS c78:=
 cO (hR [hD 1 4 [cA 0]]) (hq x79 hz) aJ Tryz.call78 Tryz.func78
def GD(a0:jx)(_a1:Int):Zm:=
 Option.bind (α:=Bool) (if(decide (a0.2.1=(0:Int)))=true then(if(decide (a0.2.2.1=(4095:Int)))=true then(if(decide (a0.2.2.2.2.1=(-1:Int)))=true then(some (decide ((List.length a0.2.2.2.2.2.1:Int)=(0:Int)))) else(some false)) else(some false)) else(some false)) fun v1=>some v1
def Yt:SS:=⟨24,64,[(4,vB)],[],[]⟩
def c77:bH:=aI G [.tmp 4] 77 [.val qS,vI] [] 64 Yt [] (.bZ (u2 GD))
theorem x77:hS c77:=
 cO (hR [hD 1 4 []]) hz aJ Tryz.call77 Tryz.func77
def GF(a0:jx)(_a1:Int):Zm:=
 Option.bind (α:=Bool) (if(decide (a0.2.1=(0:Int)))=true then(if(decide (a0.2.2.1=(1023:Int)))=true then(if(decide (a0.2.2.2.2.1=(-1:Int)))=true then(some (decide ((List.length a0.2.2.2.2.2.1:Int)=(0:Int)))) else(some false)) else(some false)) else(some false)) fun v1=>some v1
def c76:bH:=aI G [.tmp 4] 76 [.val qS,vI] [] 64 Yt [] (.bZ (u2 GF))
theorem x76:hS c76:=
 cO (hR [hD 1 4 []]) hz aJ Tryz.call76 Tryz.func76
def PA(a0:jx)(a1:Int):Zm:=
 Option.bind (α:=Bool) (if(decide ((0:Int)≤a0.2.1))=true then(if(decide (a0.2.1≤a0.2.2.1))=true then(if(decide (a0.2.2.1≤(1048576:Int)))=true then(if(decide ((-1:Int)≤a0.2.2.2.2.1))=true then(if(decide (a0.2.2.2.2.1<a1))=true then(some (decide ((List.length a0.2.2.2.2.2.1:Int)=(0:Int)))) else(some false)) else(some false)) else(some false)) else(some false)) else(some false)) fun v1=>some v1
def ad4:SS:=⟨37,77,[(4,vB)],[],[]⟩
def c75:bH:=aI G [.tmp 4] 75 [.val qS,vI] [] 77 ad4 [] (.bZ (u2 PA))
theorem x75:hS c75:=
 cO (hR [hD 1 4 []]) hz aJ Tryz.call75 Tryz.func75
def uB(a0:kU)(a1:jx):Zm:=
 aG (U:=kU×jx) (Option.bind (α:=Bool) (if(decide (a1.1<(1:Int)))=true then(some true) else(some (decide ((4:Int)<a1.1)))) fun v2=>if v2=true then(cN (some false)) else(some (.aS (a0,a1)))) fun⟨b,a⟩=>if 0≤a.1 then(if a.1<(5:Int) then(if a.1=(0:Int) then none else(if a.1=(1:Int) then(Option.bind (PA a (List.length b.1.2.1:Int)) fun y6=>some y6) else(if a.1=(2:Int) then(Option.bind (GF a (List.length b.1.2.1:Int)) fun y5=>some y5) else(if a.1=(3:Int) then(Option.bind (GD a (List.length b.1.2.1:Int)) fun y4=>some y4) else(if a.1=(4:Int) then(Option.bind (GC a (List.length b.1.2.1:Int)) fun y3=>some y3) else none))))) else none) else none
def ad5:SS:=⟨23,63,[tP 2 18,tP 3 19],[(18,bV lS),(19,bV qS)],[]⟩
def ad6:SS:=⟨23,63,[(4,vB)],[],[]⟩
def c29:bH:=aI G [.tmp 4] 29 [.val lS,.val qS] [] 63 ad6 [] (.bZ (u2 uB))
theorem x29:hS c29:=
 cO ⟨[hD 1 12 [],hE 3 [cA 0,⟨[1,2,3,4],[],[],[],[]⟩]],[(3,ad5)],[],[],[],[]⟩ (hq Vn (hq x78 (hq x77 (hq x76 (hq x75 hz))))) aJ Tryz.call29 Tryz.func29
def wi:Nat→ZG×Int×Int×Ft×GJ→Option (dN (ZG×Int×GJ) (dN Unit Bool)):=aL fun rec9 ⟨c,d,e,b,a,f⟩=>if(decide (a<(4:Int)))=true then(if 0≤a then(if a<(4:Int) then(Option.bind (α:=Bool) (if(decide ((nth (.int .i64) b a)<(0:Int)))=true then(some true) else(some (decide ((9:Int)<(nth (.int .i64) b a))))) fun v10=>if v10=true then(cN (cN (some false))) else(rec9 (c,d,e,b,aQ (a+1),f))) else none) else none) else(some (.aS (c,d,e,f)))
def Cg:Nat→ZG×Int×GJ→Zu:=aL fun apq ⟨g,f,e,h⟩=>if(decide (e<f))=true then(aG (U:=ZG×Int×GJ) (if 0≤e then(if e<(List.length g:Int) then(Option.bind (uB h (nth cS g e).2.1) fun y7=>if(!y7)=true then(cN (cN (some false))) else(wi (Int.toNat (4:Int)+1) (g,f,e,(nth cS g e).2.2.1,0,h))) else none) else none) fun⟨a,b,c,d⟩=>apq (a,b,aQ (c+1),d)) else(some (.aS ()))
def Yu(a0:kU)(a1:qd):Zm:=
 aG (U:=kU×qd) (Option.bind (α:=Bool) (if(decide (a1.2.2.1<(0:Int)))=true then(some true) else(if(decide ((List.length a0.1.1:Int)≤a1.2.2.1))=true then(some true) else(if(decide (a1.2.2.2.1<(1:Int)))=true then(some true) else(if(decide ((255:Int)<a1.2.2.2.1))=true then(some true) else(if(decide ((List.length a1.2.2.2.2.1:Int)<(1:Int)))=true then(some true) else(if(decide ((12:Int)<(List.length a1.2.2.2.2.1:Int)))=true then(some true) else(if(0:Int)<(List.length a1.2.2.2.2.1:Int) then(some (!decide ((nth cS a1.2.2.2.2.1 (0:Int)).2.1.1=(3:Int)))) else none))))))) fun v2=>if v2=true then(cN (some false)) else(some (.aS (a0,a1)))) fun⟨b,a⟩=>aG (U:=Unit) (Cg (Int.toNat (List.length a.2.2.2.2.1:Int)+1) (a.2.2.2.2.1,(List.length a.2.2.2.2.1:Int),0,b)) fun _=>some true
def ad8:SS:=⟨77,117,[tP 2 18,tP 3 19],[(18,bV lS),(19,bV aU)],[]⟩
def Yv:SS:=⟨77,117,[tP 2 18,(53,.val (.slice 120 cS)),tI 54,tI 55],[(18,bV lS)],[]⟩
def ad9:SS:=⟨77,117,[],[],[]⟩
def aea:SS:=⟨77,117,[tP 2 18,(53,.val (.slice 120 cS)),tI 54,tI 55,(65,.val Ic),tI 66],[(18,bV lS)],[]⟩
def aeb:SS:=⟨77,117,[(4,vB)],[],[]⟩
def c86:bH:=aI G [.tmp 4] 86 [.val lS,.val aU] [] 117 aeb [] (.bZ (u2 Yu))
theorem x86:hS c86:=
 cO ⟨[hD 1 51 [],hA 6 0,hD 11 74 []],[(3,ad8),(14,Yv),(15,ad9)],[],[(4,⟨Yv,fun u4=>Int.toNat u4.2.1+1⟩),(9,⟨aea,fun _=>Int.toNat (4:Int)+1⟩)],[],[]⟩ (hq x29 hz) aJ Tryz.call86 Tryz.func86
def uD(a0:qd)(a1:kU):UB:=
 Option.bind (Yu a1 a0) fun y1=>some (!y1,a1)
def aec:SS:=⟨8,48,[(3,vB)],[(0,.var (.aY .func) (.fm 86 lS))],[]⟩
def P7:bH:=aI G [.tmp 3] 145 [.val aU,pP 0] [(0,.var (.aY .func) (.fm 86 lS))] 48 aec [0] (.bZ (u2 uD))
theorem P8:hS P7:=
 cO (hR [hA 1 0]) (hq x86 hz) aJ Tryz.call145 Tryz.func145
def Hp:Nat→Zn×Int×GJ→Option (dN kU GJ):=aL fun aoP ⟨e,d,c,f⟩=>if(decide (c<d))=true then(if 0≤c then(if c<(List.length e:Int) then(Option.bind (uD (nth aU e c) f) fun⟨a,b⟩=>if a=true then(cN (some (c,b))) else(aoP (e,d,aQ (c+1),b))) else none) else none) else(some (.aS f))
def Ch(a0:Zn)(a1:kU):Option GJ:=
 aG (U:=kU) (Hp (Int.toNat (List.length a0:Int)+1) (a0,(List.length a0:Int),0,a1)) fun v1=>some ((-1:Int),v1)
def aed:SS:=⟨19,59,[],[(0,.var (.aY .func) (.fm 86 lS))],[]⟩
def aee:SS:=⟨19,59,[(0,.val (.slice 96 aU)),(1,.func 145 .nil (.cons (pP 0) .nil)),tI 7,tI 8],[(0,.var (.aY .func) (.fm 86 lS))],[]⟩
def aef:SS:=⟨19,59,[tI 4],[(0,.var (.aY .func) (.fm 86 lS))],[]⟩
def P9:bH:=aI G [.tmp 4] 226 [.val (.slice 96 aU),.func 145 .nil (.cons (pP 0) .nil)] [(0,.var (.aY .func) (.fm 86 lS))] 59 aef [0] (.bZ (u2 Ch))
theorem Qa:hS P9:=
 cO ⟨[hE 4 [cB 0 [(0,0)] []]],[(7,aed)],[],[(2,⟨aee,fun u2=>Int.toNat u2.2.1+1⟩)],[],[]⟩ (hq P8 hz) aJ Tryz.call226 Tryz.func226
def Ci(a0:Zn)(a1:kU):UB:=
 Option.bind (Ch a0 a1) fun⟨a,b⟩=>some (decide ((0:Int)≤a),b)
def aeg:SS:=⟨9,49,[(4,vB)],[(0,.var (.aY .func) (.fm 86 lS))],[]⟩
def Qb:bH:=aI G [.tmp 4] 144 [.val (.slice 96 aU),.func 145 .nil (.cons (pP 0) .nil)] [(0,.var (.aY .func) (.fm 86 lS))] 49 aeg [0] (.bZ (u2 Ci))
theorem Qc:hS Qb:=
 cO (hR [hE 1 [cB 0 [(0,0)] []]]) (hq Qa hz) aJ Tryz.call144 Tryz.func144
def Cj(a0:Zn)(a1:kU):Zm:=
 Option.bind (Ci a0 a1) fun⟨a,_⟩=>some (!a)
def Vo:bH:=aI G [.tmp 4] 85 [.val (.slice 96 aU),.fm 86 lS] [] 49 Mz [] (.bZ (u2 Cj))
theorem Vp:hS Vo:=
 cO (hR [hE 1 [cB 0 [(0,19)] []]]) (hq Qc hz) aJ Tryz.call85 Tryz.func85
def Qd(a0:kU)(a1:Int)(a2:Int):Option (Bool×jx):=
 aG (U:=Int×Int×kU×Int×Int×Int×Zf×Int) (Option.bind (α:=Bool) (if(decide (a1<(0:Int)))=true then(some true) else(if(decide ((List.length a0.1.2.2.1:Int)≤a1))=true then(some true) else(if(decide (a2<(0:Int)))=true then(some true) else(if 0≤a1 then(if a1<(List.length a0.1.2.2.1:Int) then(some (decide ((List.length (nth aU a0.1.2.2.1 a1).2.2.2.2.1:Int)≤a2))) else none) else none)))) fun v2=>if v2=true then(cN (some (false,0,0,0,[],0,([]:Zs),()))) else(some (.aS (a1,a2,a0,0,0,0,[],0)))) fun⟨a,c,b,_,_,_,_,_⟩=>if 0≤a then(if a<(List.length b.1.2.2.1:Int) then(if 0≤c then(if c<(List.length (nth aU b.1.2.2.1 a).2.2.2.2.1:Int) then(some (true,(nth cS (nth aU b.1.2.2.1 a).2.2.2.2.1 c).2.1)) else none) else none) else none) else none
def aeh:SS:=⟨46,86,[tI 1,tI 2,tP 3 19,tP 6 22],[(19,bV lS),(22,.var qS (.cons vI (.cons vI (.cons vI (.cons (.val .str) (.cons vI (.cons .aM .nil)))))))],[]⟩
def aei:SS:=⟨46,86,[tP 6 22,(7,vB)],[(22,bV qS)],[]⟩
def c28:bH:=aI G [.cell 6 94,.tmp 7] 28 [.val lS,vI,vI] [] 86 aei [] (.bZ (u3 Qd))
theorem Yw:hS c28:=
 cO ⟨[hD 1 33 []],[(3,aeh)],[],[],[],[]⟩ hz aJ Tryz.call28 Tryz.func28
def Hq(a0:iw)(a1:gQ)(a2:Int):Option (Bool×jx):=
 aG (U:=iw×gQ×Int×Int×Int×Zf×Int) (Option.bind (α:=Bool) (if(decide (a1.2.2.1<(0:Int)))=true then(some true) else(some (decide (a2≤a1.2.2.1)))) fun v2=>if v2=true then(cN (some (false,0,0,0,[],0,([]:Zs),()))) else(some (.aS (a0,a1,0,0,0,[],0)))) fun⟨b,a,_,_,_,_,_⟩=>if 0≤a.2.2.1 then(if a.2.2.1<(List.length b.2.1.2.2.1:Int) then(Option.bind (Qd b.1 (nth bG b.2.1.2.2.1 a.2.2.1).2.2.1 a.2.2.2.1) fun⟨c,d⟩=>some (c,d)) else none) else none
def aej:SS:=⟨33,73,[tP 3 19,tP 4 20,tP 6 22],[(19,bV ri),(20,bV bB),(22,.var qS (.cons vI (.cons vI (.cons vI (.cons (.val .str) (.cons vI (.cons .aM .nil)))))))],[]⟩
def aek:SS:=⟨33,73,[tP 6 22,(7,vB)],[(22,bV qS)],[]⟩
def ael:bH:=aI G [.cell 6 94,.tmp 7] 222 [.val ri,.val bB,vI] [] 73 aek [] (.bZ (u3 Hq))
theorem Vq:hS ael:=
 cO ⟨[hD 1 16 [],hA 3 0],[(3,aej)],[],[],[],[]⟩ (hq Yw hz) aJ Tryz.call222 Tryz.func222
def xX:Nat→ZB×Int×Int×iw→Zu:=aL fun apq ⟨k,j,i,l⟩=>if(decide (i<j))=true then(if 0≤i then(if i<(List.length k:Int) then(aG (U:=Int×ZB×Int×Int×iw×Ih) (Option.bind (α:=Bool) (if(decide ((nth bG k i).2.2.1<(0:Int)))=true then(some true) else(some (decide ((List.length l.1.1.2.2.1:Int)≤(nth bG k i).2.2.1)))) fun v7=>if v7=true then(cN (cN (some false))) else(some (.aS (i,k,j,i,l,nth bG k i)))) fun⟨f,b,c,d,e,a⟩=>if(decide (a.2.2.2.1.2.2.1=(-1:Int)))=true then(apq (b,c,aQ (d+1),e)) else(Option.bind (Hq e a.2.2.2.1 f) fun⟨g,h⟩=>Option.bind (α:=Bool) (if(!g)=true then(some true) else(some (!decide (h.1=(3:Int))))) fun v9=>if v9=true then(cN (some false)) else(apq (b,c,aQ (d+1),e)))) else none) else none) else(some (.aS ()))
def MA(a0:iw):Zm:=
 aG (U:=iw) (Option.bind (α:=Bool) (if(decide ((List.length a0.2.1.2.2.1:Int)<(1:Int)))=true then(some true) else(some (decide ((3:Int)<(List.length a0.2.1.2.2.1:Int))))) fun v2=>if v2=true then(cN (some false)) else(some (.aS a0))) fun v1=>aG (U:=Unit) (xX (Int.toNat (List.length v1.2.1.2.2.1:Int)+1) (v1.2.1.2.2.1,(List.length v1.2.1.2.2.1:Int),0,v1)) fun _=>some true
def aem:SS:=⟨61,101,[tP 1 17],[(17,bV ri)],[]⟩
def aen:SS:=⟨61,101,[tP 1 17,tI 3,tP 4 20,(21,.val (.slice 96 bG)),tI 22,tI 23],[(17,bV ri),(20,bV bG)],[]⟩
def aeo:SS:=⟨61,101,[],[],[]⟩
def aep:SS:=⟨61,101,[tP 1 17,(21,.val (.slice 96 bG)),tI 22,tI 23],[(17,bV ri)],[]⟩
def aeq:SS:=⟨61,101,[(2,vB)],[],[]⟩
def aer:bH:=aI G [.tmp 2] 138 [.val ri] [] 101 aeq [] (.bZ (u1 MA))
theorem aes:hS aer:=
 cO ⟨[hD 1 18 [],hD 6 40 [],hA 9 0,hD 10 59 []],[(3,aem),(8,aen),(13,aeo)],[],[(4,⟨aep,fun u4=>Int.toNat u4.2.1+1⟩)],[],[]⟩ (hq Vq hz) aJ Tryz.call138 Tryz.func138
def MB(a0:gQ):Zm:=
 Option.bind (α:=Bool) (if(decide (a0.2.2.1=(-1:Int)))=true then(if(decide ((0:Int)≤a0.2.2.2.2.1))=true then(some (decide (a0.2.2.2.2.1≤(1048576:Int)))) else(some false)) else(some false)) fun v1=>some v1
def aet:SS:=⟨16,56,[(2,vB)],[],[]⟩
def aeu:bH:=aI G [.tmp 2] 223 [.val bB] [] 56 aet [] (.bZ (u1 MB))
theorem Yx:hS aeu:=
 cO (hR [hD 1 2 []]) hz aJ Tryz.call223 Tryz.func223
def Qe(a0:kU)(a1:jx)(a2:jx):Zm:=
 aG (U:=kU×jx×jx) (if(!decide (a1.1=a2.1))=true then(cN (some false)) else(if(decide (a1.1=(4:Int)))=true then(Option.bind (UW a1.2.2.2.2.2.1 a2.2.2.2.2.2.1) fun y2=>cN (some y2)) else(Option.bind (α:=Bool) (if(!decide (a1.1=(1:Int)))=true then(some true) else(if(decide (a1.2.2.2.2.1=(-1:Int)))=true then(some true) else(some (decide (a2.2.2.2.2.1=(-1:Int)))))) fun v3=>if v3=true then(cN (some (decide (a1.2.2.2.2.1=a2.2.2.2.2.1)))) else(some (.aS (a0,a1,a2)))))) fun⟨b,a,c⟩=>if 0≤a.2.2.2.2.1 then(if a.2.2.2.2.1<(List.length b.1.2.1:Int) then(if 0≤c.2.2.2.2.1 then(if c.2.2.2.2.1<(List.length b.1.2.1:Int) then(some (decide ((nth bB b.1.2.1 a.2.2.2.2.1).2.2.2.1=(nth bB b.1.2.1 c.2.2.2.2.1).2.2.2.1))) else none) else none) else none) else none
def aev:SS:=⟨58,98,[tP 3 19,tP 4 20,tP 5 21],[(19,bV lS),(20,bV qS),(21,bV qS)],[]⟩
def aew:SS:=⟨58,98,[(6,vB)],[],[]⟩
def aex:bH:=aI G [.tmp 6] 224 [.val lS,.val qS,.val qS] [] 98 aew [] (.bZ (u3 Qe))
theorem aey:hS aex:=
 cO ⟨[hA 4 0,hD 5 22 []],[(7,aev)],[],[],[],[]⟩ (hq x97 hz) aJ Tryz.call224 Tryz.func224
def sH:Nat→Int×Int×iw×zT×Zw×List jx→Option (dN (iw×zT×List jx) Bool):=aL fun apq ⟨d,c,f,h,e,g⟩=>if(decide (c<d))=true then(if 0≤c then(if c<(List.length e:Int) then(Option.bind (Hq f (nth bB e c) (List.length f.2.1.2.2.1:Int)) fun⟨a,b⟩=>Option.bind (α:=Bool) (if(!a)=true then(Option.bind (MB (nth bB e c)) fun y7=>some (!y7)) else(some false)) fun v8=>if v8=true then(cN (some false)) else(if a=true then(if(List.length g+List.length [b])*72≤aF then(apq (d,aQ (c+1),f,h,e,g++[b])) else none) else(apq (d,aQ (c+1),f,h,e,g)))) else none) else none) else(some (.aS (f,h,g)))
def rC:Nat→Int×Int×zT×List jx→Zu:=aL fun rec14 ⟨b,a,d,c⟩=>if(decide (a<b))=true then(if 0≤a then(if a<(List.length c:Int) then(Option.bind (α:=Bool) (if(decide ((nth qS c a).1=(1:Int)))=true then(some true) else(some (decide ((nth qS c a).1=(2:Int))))) fun v15=>Option.bind (α:=Bool) (if(decide (d.1=(2:Int)))=true then(some (!v15)) else(if(decide (d.1=(3:Int)))=true then(some (!v15)) else(some false))) fun v16=>if v16=true then(cN (some false)) else(rec14 (b,aQ (a+1),d,c))) else none) else none) else(some (.aS ()))
def Qf(a0:iw)(a1:zT):Zm:=
 aG (U:=iw×zT) (Option.bind (α:=Bool) (if(decide (a1.1<(1:Int)))=true then(some true) else(some (decide ((4:Int)<a1.1)))) fun v2=>if v2=true then(cN (some false)) else(some (.aS (a0,a1)))) fun⟨b,a⟩=>aG (U:=iw×zT×List jx) (sH (Int.toNat (List.length [a.2.1,a.2.2.1]:Int)+1) ((List.length [a.2.1,a.2.2.1]:Int),0,b,a,[a.2.1,a.2.2.1],([]:List jx))) fun⟨d,e,c⟩=>aG (U:=zT×List jx) (Option.bind (α:=Bool) (if(decide ((List.length c:Int)=(0:Int)))=true then(some true) else(if(decide ((List.length c:Int)=(2:Int)))=true then(if(0:Int)<(List.length c:Int) then(if(1:Int)<(List.length c:Int) then(Option.bind (Qe d.1 (nth qS c (0:Int)) (nth qS c (1:Int))) fun y10=>some (!y10)) else none) else none) else(some false))) fun v11=>if v11=true then(cN (some false)) else(some (.aS (e,c)))) fun⟨g,f⟩=>aG (U:=Unit) (rC (Int.toNat (List.length f:Int)+1) ((List.length f:Int),0,g,f)) fun _=>some true
def aez:SS:=⟨101,141,[tP 2 18,tP 3 19],[(18,bV ri),(19,bV cH)],[]⟩
def aeA:SS:=⟨101,141,[tP 2 18,tP 3 19,(5,.own 118)],[(18,bV ri),(19,bV cH),(118,.row 94 72 qS)],[]⟩
def aeB:SS:=⟨101,141,[tP 3 19,(5,.own 118)],[(19,bV cH),(118,.row 94 72 qS)],[]⟩
def aeC:SS:=⟨101,141,[],[],[]⟩
def aeD:SS:=⟨101,141,[tP 2 18,tP 3 19,(5,.own 117),(25,.own 41),tI 26,tI 27],[(18,bV ri),(19,bV cH),(41,.row 59 56 bB),(117,.row 94 72 qS)],[]⟩
def aeE:SS:=⟨101,141,[tP 3 19,(74,.own 118),tI 75,tI 76],[(19,bV cH),(118,.row 94 72 qS)],[]⟩
def aeF:SS:=⟨101,141,[(4,vB)],[],[]⟩
def aeG:bH:=aI G [.tmp 4] 139 [.val ri,.val cH] [] 141 aeF [] (.bZ (u2 Qf))
theorem aeH:hS aeG:=
 cO ⟨[hD 1 20 [],hA 7 0,hD 8 47 [cA 1],hD 13 73 [cA 2],hD 18 12 [],hD 19 99 []],[(3,aez),(13,aeA),(15,aeB),(22,aeC)],[],[(5,⟨aeD,fun u4=>Int.toNat u4.1+1⟩),(16,⟨aeE,fun L0=>Int.toNat L0.1+1⟩)],[],[]⟩ (hq Vq (hq Yx (hq aey hz))) aJ Tryz.call139 Tryz.func139
def Qg(a0:iw)(a1:jx)(a2:gQ):Zm:=
 Option.bind (MB a2) fun y1=>if y1=true then(Option.bind (α:=Bool) (if(decide (a1.2.1≤a2.2.2.2.2.1))=true then(some (decide (a2.2.2.2.2.1≤a1.2.2.1))) else(some false)) fun v2=>some v2) else(Option.bind (Hq a0 a2 (List.length a0.2.1.2.2.1:Int)) fun⟨a,b⟩=>Option.bind (α:=Bool) (if a=true then(if(decide (b.1=a1.1))=true then(if(decide (b.2.2.2.2.1=a1.2.2.2.2.1))=true then(Option.bind (UW b.2.2.2.2.2.1 a1.2.2.2.2.2.1) fun y4=>if y4=true then(if(decide (a1.2.1≤b.2.1))=true then(if(decide (b.2.1≤a1.2.2.1))=true then(if(decide (a1.2.1≤b.2.2.1))=true then(some (decide (b.2.2.1≤a1.2.2.1))) else(some false)) else(some false)) else(some false)) else(some false)) else(some false)) else(some false)) else(some false)) fun v5=>some v5)
def aeI:SS:=⟨83,123,[(6,vB)],[],[]⟩
def aeJ:bH:=aI G [.tmp 6] 140 [.val ri,.val qS,.val bB] [] 123 aeI [] (.bZ (u3 Qg))
theorem aeK:hS aeJ:=
 cO (hR [hA 1 0,hD 2 6 [],hA 3 1,hD 4 6 [cA 2]]) (hq Yx (hq Vq (hq x97 hz))) aJ Tryz.call140 Tryz.func140
def Ck:Nat→Zd×Int×Int×Zr→Zu:=aL fun aoP ⟨c,b,a,d⟩=>if(decide (a<b))=true then(if 0≤a then(if a<(List.length c:Int) then(if(aO (.int .i64) .bool (nth (.int .i64) c a) d)=true then(cN (some false)) else(if List.length d+1≤aF then(aoP (c,b,aQ (a+1),bK (.int .i64) (nth (.int .i64) c a) true d)) else none)) else none) else none) else(some (.aS ()))
def Vr(a0:Zd):Zm:=
 aG (U:=Unit) (Ck (Int.toNat (List.length a0:Int)+1) (a0,(List.length a0:Int),0,([]:Zr))) fun _=>some true
def aeL:SS:=⟨21,61,[],[],[]⟩
def aeM:SS:=⟨21,61,[(3,.mp 24),(9,.val (.slice 8 (.int .i64))),tI 10,tI 11],[(24,.map (.int .i64) .bool)],[]⟩
def aeN:SS:=⟨21,61,[(2,vB)],[],[]⟩
def aeO:bH:=aI G [.tmp 2] 141 [.val (.slice 8 (.int .i64))] [] 61 aeN [] (.bZ (u1 Vr))
theorem aeP:hS aeO:=
 cO ⟨[],[(9,aeL)],[],[(3,⟨aeM,fun u2=>Int.toNat u2.2.1+1⟩)],[],[]⟩ hz aJ Tryz.call141 Tryz.func141
def wj:Nat→ZE×Int×Int×iw→Option (dN iw Bool):=aL fun rec6 ⟨c,b,a,d⟩=>if(decide (a<b))=true then(if 0≤a then(if a<(List.length c:Int) then(Option.bind (Qf d (nth cH c a)) fun y7=>if(!y7)=true then(cN (some false)) else(rec6 (c,b,aQ (a+1),d))) else none) else none) else(some (.aS d))
def sI:Nat→Int×ZF×Int×Int×iw×Zd→Option (dN Zd Bool):=aL fun rec12 ⟨g,e,d,c,f,h⟩=>if(decide (c<d))=true then(if 0≤c then(if c<(List.length e:Int) then(Option.bind (Qd f.1 g (nth dF e c).2.1) fun⟨a,b⟩=>Option.bind (α:=Bool) (if(!a)=true then(some true) else(if(decide ((nth dF e c).2.1=(0:Int)))=true then(some true) else(Option.bind (Qg f b (nth dF e c).2.2.1) fun y14=>some (!y14)))) fun v15=>if v15=true then(cN (some false)) else(if(List.length h+List.length [(nth dF e c).2.1])*8≤aF then(rec12 (g,e,d,aQ (c+1),f,h++[(nth dF e c).2.1])) else none)) else none) else none) else(some (.aS h))
def Yy(a0:iw):Zm:=
 aG (U:=iw) (Option.bind (α:=Bool) (Option.bind (MA a0) fun y2=>if(!y2)=true then(some true) else(some (decide ((8:Int)<(List.length a0.2.1.2.2.2.1:Int))))) fun v3=>if v3=true then(cN (some false)) else(some (.aS a0))) fun v1=>aG (U:=iw) (wj (Int.toNat (List.length v1.2.1.2.2.2.1:Int)+1) (v1.2.1.2.2.2.1,(List.length v1.2.1.2.2.2.1:Int),0,v1)) fun v4=>aG (U:=Int×iw) (Option.bind (α:=Bool) (if(decide (v4.2.1.2.1<(0:Int)))=true then(some true) else(if(decide ((List.length v4.1.1.2.2.1:Int)≤v4.2.1.2.1))=true then(some true) else(if 0≤v4.2.1.2.1 then(if v4.2.1.2.1<(List.length v4.1.1.2.2.1:Int) then(some (!decide ((List.length v4.2.1.2.2.2.2.1:Int)=(aQ ((List.length (nth aU v4.1.1.2.2.1 v4.2.1.2.1).2.2.2.2.1:Int) -(1:Int)))))) else none) else none))) fun v9=>if v9=true then(cN (some false)) else(some (.aS (v4.2.1.2.1,v4)))) fun⟨b,a⟩=>aG (U:=Zd) (sI (Int.toNat (List.length a.2.1.2.2.2.2.1:Int)+1) (b,a.2.1.2.2.2.2.1,(List.length a.2.1.2.2.2.2.1:Int),0,a,([]:Zd))) fun v10=>Option.bind (Vr v10) fun y16=>some y16
def Yz:SS:=⟨105,145,[tP 1 17],[(17,bV ri)],[]⟩
def aeQ:SS:=⟨105,145,[tP 1 17,tI 5],[(17,bV ri)],[]⟩
def aeR:SS:=⟨105,145,[(6,.own 122)],[(122,.row 3 8 (.int .i64))],[]⟩
def aeS:SS:=⟨105,145,[tP 1 17,(23,.val (.slice 120 cH)),tI 24,tI 25],[(17,bV ri)],[]⟩
def aeT:SS:=⟨105,145,[tP 1 17,tI 5,(6,.own 121),(67,.val (.slice 80 dF)),tI 68,tI 69],[(17,bV ri),(121,.row 3 8 (.int .i64))],[]⟩
def aeU:SS:=⟨105,145,[(2,vB)],[],[]⟩
def c82:bH:=aI G [.tmp 2] 82 [.val ri] [] 145 aeU [] (.bZ (u1 Yy))
theorem x82:hS c82:=
 cO ⟨[hD 1 20 [cA 0],hA 6 1,hD 10 64 [],hA 16 2,hD 17 96 [cA 3],hA 21 4],[(3,Yz),(9,Yz),(12,aeQ),(21,aeR)],[],[(4,⟨aeS,fun u5=>Int.toNat u5.2.1+1⟩),(14,⟨aeT,fun Ii=>Int.toNat Ii.2.2.1+1⟩)],[],[]⟩ (hq aes (hq aeH (hq Yw (hq aeK (hq aeP hz))))) aJ Tryz.call82 Tryz.func82
def Hr(a0:eU)(a1:kU):Zm:=
 Option.bind (Yy (a1,a0,())) fun y1=>some y1
def aeV:SS:=⟨8,48,[(3,vB)],[],[]⟩
def Vs:bH:=aI G [.tmp 3] 81 [.val bX,.dk lS] [] 48 aeV [] (.bZ (u2 Hr))
theorem Vt:hS Vs:=
 cO (hR [hA 1 0]) (hq x82 hz) aJ Tryz.call81 Tryz.func81
def uE(a0:eU)(a1:kU):UB:=
 Option.bind (Hr a0 a1) fun y1=>some (!y1,a1)
def aeW:SS:=⟨8,48,[(3,vB)],[(0,.var (.aY .func) (.func 81 .nil (.cons (.dk lS) .nil)))],[]⟩
def Qh:bH:=aI G [.tmp 3] 147 [.val bX,pP 0] [(0,.var (.aY .func) (.func 81 .nil (.cons (.dk lS) .nil)))] 48 aeW [0] (.bZ (u2 uE))
theorem Qi:hS Qh:=
 cO (hR [hA 1 0]) (hq Vt hz) aJ Tryz.call147 Tryz.func147
def Ht:Nat→Zl×Int×GJ→Option (dN kU GJ):=aL fun aoP ⟨e,d,c,f⟩=>if(decide (c<d))=true then(if 0≤c then(if c<(List.length e:Int) then(Option.bind (uE (nth bX e c) f) fun⟨a,b⟩=>if a=true then(cN (some (c,b))) else(aoP (e,d,aQ (c+1),b))) else none) else none) else(some (.aS f))
def Cn(a0:Zl)(a1:kU):Option GJ:=
 aG (U:=kU) (Ht (Int.toNat (List.length a0:Int)+1) (a0,(List.length a0:Int),0,a1)) fun v1=>some ((-1:Int),v1)
def aeX:SS:=⟨19,59,[],[(0,.var (.aY .func) (.func 81 .nil (.cons (.dk lS) .nil)))],[]⟩
def aeY:SS:=⟨19,59,[(0,.val (.slice 96 bX)),(1,.func 147 .nil (.cons (pP 0) .nil)),tI 7,tI 8],[(0,.var (.aY .func) (.func 81 .nil (.cons (.dk lS) .nil)))],[]⟩
def aeZ:SS:=⟨19,59,[tI 4],[(0,.var (.aY .func) (.func 81 .nil (.cons (.dk lS) .nil)))],[]⟩
def Qj:bH:=aI G [.tmp 4] 227 [.val (.slice 96 bX),.func 147 .nil (.cons (pP 0) .nil)] [(0,.var (.aY .func) (.func 81 .nil (.cons (.dk lS) .nil)))] 59 aeZ [0] (.bZ (u2 Cn))
theorem Qk:hS Qj:=
 cO ⟨[hE 4 [cB 0 [(0,0)] []]],[(7,aeX)],[],[(2,⟨aeY,fun u2=>Int.toNat u2.2.1+1⟩)],[],[]⟩ (hq Qi hz) aJ Tryz.call227 Tryz.func227
def Co(a0:Zl)(a1:kU):UB:=
 Option.bind (Cn a0 a1) fun⟨a,b⟩=>some (decide ((0:Int)≤a),b)
def ae0:SS:=⟨9,49,[(4,vB)],[(0,.var (.aY .func) (.func 81 .nil (.cons (.dk lS) .nil)))],[]⟩
def Ql:bH:=aI G [.tmp 4] 146 [.val (.slice 96 bX),.func 147 .nil (.cons (pP 0) .nil)] [(0,.var (.aY .func) (.func 81 .nil (.cons (.dk lS) .nil)))] 49 ae0 [0] (.bZ (u2 Co))
theorem Qm:hS Ql:=
 cO (hR [hE 1 [cB 0 [(0,0)] []]]) (hq Qk hz) aJ Tryz.call146 Tryz.func146
def Cp(a0:Zl)(a1:kU):Zm:=
 Option.bind (Co a0 a1) fun⟨a,_⟩=>some (!a)
def Vu:bH:=aI G [.tmp 4] 87 [.val (.slice 96 bX),.func 81 .nil (.cons (.dk lS) .nil)] [] 49 Mz [] (.bZ (u2 Cp))
theorem Vv:hS Vu:=
 cO (hR [hE 1 [cB 0 [(0,19)] []]]) (hq Qm hz) aJ Tryz.call87 Tryz.func87
def wm:Nat→List np×Int×Int×kU×tq→Option (dN tq Bool):=aL fun aoP ⟨d,c,b,e,f⟩=>if(decide (b<c))=true then(if 0≤b then(if b<(List.length d:Int) then(Option.bind (Qd e (nth iK d b).2.2.1 (nth iK d b).2.2.2.1) fun⟨a,_⟩=>if(!a)=true then(cN (some false)) else(aoP (d,c,aQ (b+1),e,f))) else none) else none) else(some (.aS f))
def YA(a0:kU)(a1:tq):Zm:=
 aG (U:=tq) (wm (Int.toNat (List.length a1.2.1:Int)+1) (a1.2.1,(List.length a1.2.1:Int),0,a0,a1)) fun v1=>Option.bind (α:=Bool) (if(decide ((0:Int)≤v1.2.2.1))=true then(some (decide (v1.2.2.1≤(64:Int)))) else(some false)) fun v5=>some v5
def ae1:SS:=⟨36,76,[tP 3 19],[(19,bV fv)],[]⟩
def ae2:SS:=⟨36,76,[tP 2 18,tP 3 19,(10,.val (.slice 48 iK)),tI 11,tI 12],[(18,bV lS),(19,bV fv)],[]⟩
def ae3:SS:=⟨36,76,[(4,vB)],[],[]⟩
def c89:bH:=aI G [.tmp 4] 89 [.val lS,.val fv] [] 76 ae3 [] (.bZ (u2 YA))
theorem x89:hS c89:=
 cO ⟨[hA 4 0,hD 8 4 []],[(8,ae1)],[],[(2,⟨ae2,fun u2=>Int.toNat u2.2.1+1⟩)],[],[]⟩ (hq Yw hz) aJ Tryz.call89 Tryz.func89
def uF(a0:tq)(a1:kU):UB:=
 Option.bind (YA a1 a0) fun y1=>some (!y1,a1)
def ae4:SS:=⟨8,48,[(3,vB)],[(0,.var (.aY .func) (.fm 89 lS))],[]⟩
def Qn:bH:=aI G [.tmp 3] 148 [.val fv,pP 0] [(0,.var (.aY .func) (.fm 89 lS))] 48 ae4 [0] (.bZ (u2 uF))
theorem Qo:hS Qn:=
 cO (hR [hA 1 0]) (hq x89 hz) aJ Tryz.call148 Tryz.func148
def Hu:Nat→Zz×Int×GJ→Option (dN kU GJ):=aL fun aoP ⟨e,d,c,f⟩=>if(decide (c<d))=true then(if 0≤c then(if c<(List.length e:Int) then(Option.bind (uF (nth fv e c) f) fun⟨a,b⟩=>if a=true then(cN (some (c,b))) else(aoP (e,d,aQ (c+1),b))) else none) else none) else(some (.aS f))
def Cq(a0:Zz)(a1:kU):Option GJ:=
 aG (U:=kU) (Hu (Int.toNat (List.length a0:Int)+1) (a0,(List.length a0:Int),0,a1)) fun v1=>some ((-1:Int),v1)
def ae5:SS:=⟨19,59,[],[(0,.var (.aY .func) (.fm 89 lS))],[]⟩
def ae6:SS:=⟨19,59,[(0,.val (.slice 48 fv)),(1,.func 148 .nil (.cons (pP 0) .nil)),tI 7,tI 8],[(0,.var (.aY .func) (.fm 89 lS))],[]⟩
def ae7:SS:=⟨19,59,[tI 4],[(0,.var (.aY .func) (.fm 89 lS))],[]⟩
def Qp:bH:=aI G [.tmp 4] 221 [.val (.slice 48 fv),.func 148 .nil (.cons (pP 0) .nil)] [(0,.var (.aY .func) (.fm 89 lS))] 59 ae7 [0] (.bZ (u2 Cq))
theorem Qq:hS Qp:=
 cO ⟨[hE 4 [cB 0 [(0,0)] []]],[(7,ae5)],[],[(2,⟨ae6,fun u2=>Int.toNat u2.2.1+1⟩)],[],[]⟩ (hq Qo hz) aJ Tryz.call221 Tryz.func221
def Cr(a0:Zz)(a1:kU):UB:=
 Option.bind (Cq a0 a1) fun⟨a,b⟩=>some (decide ((0:Int)≤a),b)
def ae8:SS:=⟨9,49,[(4,vB)],[(0,.var (.aY .func) (.fm 89 lS))],[]⟩
def Qr:bH:=aI G [.tmp 4] 136 [.val (.slice 48 fv),.func 148 .nil (.cons (pP 0) .nil)] [(0,.var (.aY .func) (.fm 89 lS))] 49 ae8 [0] (.bZ (u2 Cr))
theorem Qs:hS Qr:=
 cO (hR [hE 1 [cB 0 [(0,0)] []]]) (hq Qq hz) aJ Tryz.call136 Tryz.func136
def Cs(a0:Zz)(a1:kU):Zm:=
 Option.bind (Cr a0 a1) fun⟨a,_⟩=>some (!a)
def Vw:bH:=aI G [.tmp 4] 88 [.val (.slice 48 fv),.fm 89 lS] [] 49 Mz [] (.bZ (u2 Cs))
theorem Vx:hS Vw:=
 cO (hR [hE 1 [cB 0 [(0,19)] []]]) (hq Qs hz) aJ Tryz.call88 Tryz.func88
def YB(a0:bF):Dm:=
 Option.bind (f80 (a0,())) fun y1=>if(!y1)=true then(some (2:Int)) else(Option.bind (α:=Bool) (Option.bind (Cf a0.2.1 (a0,())) fun y2=>if(!y2)=true then(some true) else(Option.bind (Cj a0.2.2.1 (a0,())) fun y3=>if(!y3)=true then(some true) else(Option.bind (Cp a0.2.2.2.1 (a0,())) fun y4=>if(!y4)=true then(some true) else(Option.bind (Cs a0.2.2.2.2.2.1 (a0,())) fun y5=>some (!y5))))) fun v6=>if v6=true then(some (120:Int)) else(some (0:Int)))
def ae9:SS:=⟨40,80,[tI 2],[],[]⟩
def c55:bH:=aI G [.tmp 2] 55 [.val eR] [] 80 ae9 [] (.bZ (u1 YB))
theorem x55:hS c55:=
 cO (hR [hA 2 0,hD 5 39 [cA 1,cA 2,cA 3,cA 4]]) (hq x80 (hq Vk (hq Vp (hq Vv (hq Vx hz))))) aJ Tryz.call55 Tryz.func55
def Qt(a0:Int)(a1:Int):Zm:=
 if 0≤a1 then(some (decide ((lM .and .u64 (Int.fdiv a0 (2^(min (Int.toNat a1) 64))) (1:Int))=(1:Int)))) else none
def afa:SS:=⟨10,50,[(4,vB)],[],[]⟩
def afb:bH:=aI G [.tmp 4] 228 [.val (.int .u64),vI] [] 50 afa [] (.bZ (u2 Qt))
theorem afc:hS afb:=
 cO (hR []) hz aJ Tryz.call228 Tryz.func228
def sJ:Nat→Int×Int×Zd×Int×Int×zS→Option (dN (Int×Int×zS) Bool):=aL fun aoP ⟨d,e,c,b,a,f⟩=>if(decide (a<b))=true then(if 0≤a then(if a<(List.length c:Int) then(Option.bind (α:=Bool) (if(decide ((nth (.int .i64) c a)<(0:Int)))=true then(some true) else(if(decide (d≤(nth (.int .i64) c a)))=true then(some true) else(Option.bind (Qt e (nth (.int .i64) c a)) fun y4=>some y4))) fun v5=>if v5=true then(cN (some false)) else(if 0≤(nth (.int .i64) c a) then(aoP (d,lM .or .u64 e (IntKind.u64.wrap ((1:Int)*2^(min (Int.toNat (nth (.int .i64) c a)) 64))),c,b,aQ (a+1),f)) else none)) else none) else none) else(some (.aS (d,e,f)))
def Qu(a0:zS)(a1:Int):Zm:=
 aG (U:=Int×Int×zS) (sJ (Int.toNat (List.length a0.2.2.1:Int)+1) (a1,0,a0.2.2.1,(List.length a0.2.2.1:Int),0,a0)) fun⟨c,a,b⟩=>Option.bind (α:=Bool) (if(!decide (a=(0:Int)))=true then(if(decide ((0:Int)≤b.2.2.2.1))=true then(if(decide (b.2.2.2.1<c))=true then(Option.bind (Qt a b.2.2.2.1) fun y6=>some (!y6)) else(some false)) else(some false)) else(some false)) fun v7=>some v7
def afd:SS:=⟨52,92,[tI 1,tP 2 18,(5,.val (.int .u64))],[(18,bV iJ)],[]⟩
def afe:SS:=⟨52,92,[tI 1,tP 2 18,(5,.val (.int .u64)),(9,.val (.slice 8 (.int .i64))),tI 10,tI 11],[(18,bV iJ)],[]⟩
def aff:SS:=⟨52,92,[(4,vB)],[],[]⟩
def afg:bH:=aI G [.tmp 4] 149 [.val iJ,vI] [] 92 aff [] (.bZ (u2 Qu))
theorem afh:hS afg:=
 cO ⟨[hD 5 26 [cA 0],hD 9 4 [cA 0]],[(9,afd)],[],[(3,⟨afe,fun u2=>Int.toNat u2.2.2.2.1+1⟩)],[],[]⟩ (hq afc hz) aJ Tryz.call149 Tryz.func149
def yU:Nat→Ij×Int×Int×qd→Option (dN Unit Int):=aL fun apq ⟨c,b,a,d⟩=>if(decide (a<b))=true then(if 0≤a then(if a<(List.length c:Int) then(Option.bind (Qu (nth iJ c a) (List.length d.2.2.2.2.1:Int)) fun y6=>if(!y6)=true then(cN (some (130:Int))) else(apq (c,b,aQ (a+1),d))) else none) else none) else(some (.aS ()))
def f90(a0:qd):Dm:=
 aG (U:=qd) (Option.bind (α:=Bool) (if(decide ((List.length a0.2.2.2.2.1:Int)<(1:Int)))=true then(some true) else(if(decide ((12:Int)<(List.length a0.2.2.2.2.1:Int)))=true then(some true) else(some (decide ((12:Int)<(List.length a0.2.2.2.2.2.1:Int)))))) fun v2=>if v2=true then(cN (some (130:Int))) else(some (.aS a0))) fun v1=>aG (U:=Unit) (yU (Int.toNat (List.length v1.2.2.2.2.2.1:Int)+1) (v1.2.2.2.2.2.1,(List.length v1.2.2.2.2.2.1:Int),0,v1)) fun _=>some (0:Int)
def afi:SS:=⟨35,75,[tP 1 17],[(17,bV aU)],[]⟩
def afj:SS:=⟨35,75,[],[],[]⟩
def afk:SS:=⟨35,75,[tP 1 17,(22,.val (.slice 72 iJ)),tI 23,tI 24],[(17,bV aU)],[]⟩
def afl:SS:=⟨35,75,[tI 2],[],[]⟩
def c90:bH:=aI G [.tmp 2] 90 [.val aU] [] 75 afl [] (.bZ (u1 f90))
theorem x90:hS c90:=
 cO ⟨[hD 1 20 [],hA 6 0],[(3,afi),(9,afj)],[],[(4,⟨afk,fun u4=>Int.toNat u4.2.1+1⟩)],[],[]⟩ (hq afh hz) aJ Tryz.call90 Tryz.func90
def Hv:Nat→Zn×ZP→Option (dN Unit Int):=aL fun aoP ⟨c,b,a⟩=>if(decide (a<b))=true then(if 0≤a then(if a<(List.length c:Int) then(Option.bind (f90 (nth aU c a)) fun y4=>if(!decide (y4=(0:Int)))=true then(cN (some y4)) else(aoP (c,b,aQ (a+1)))) else none) else none) else(some (.aS ()))
def f56(a0:bF):Dm:=
 aG (U:=Unit) (Hv (Int.toNat (List.length a0.2.2.1:Int)+1) (a0.2.2.1,(List.length a0.2.2.1:Int),0)) fun _=>some (0:Int)
def afn:SS:=⟨19,59,[],[],[]⟩
def afo:SS:=⟨19,59,[(7,.val (.slice 96 aU)),tI 8,tI 9],[],[]⟩
def afp:SS:=⟨19,59,[tI 2],[],[]⟩
def c56:bH:=aI G [.tmp 2] 56 [.val eR] [] 59 afp [] (.bZ (u1 f56))
theorem x56:hS c56:=
 cO ⟨[hA 4 0],[(8,afn)],[],[(2,⟨afo,fun u2=>Int.toNat u2.2.1+1⟩)],[],[]⟩ (hq x90 hz) aJ Tryz.call56 Tryz.func56
def uG(a0:Int)(a1:Int)(a2:ZS):Option (Bool×ZS):=
 Option.bind (α:=Bool) (if(decide ((0:Int)≤a1))=true then(some (decide (a1<a0))) else(some false)) fun v1=>some (v1,a2)
def afq:SS:=⟨13,53,[(4,vB)],[(0,.pmap (.int .i64) (.map (.int .i64) .bool) 0)],[]⟩
def Qv:bH:=aI G [.tmp 4] 152 [.cons vI (.cons (.mp 0) .nil),vI] [(0,.pmap (.int .i64) (.map (.int .i64) .bool) 0)] 53 afq [0] (.bZ (u3 uG))
theorem Qw:hS Qv:=
 cO (hR [hD 1 4 []]) hz aJ Tryz.call152 Tryz.func152
def sK:Nat→Zl×Int×Int×ZB×Int×Int×Int×eU×ZS→Option (dN (Zl×Int×Int×Int×ZS) (dN (Int×ZS) (Int×gV))):=aL fun rec8 ⟨i,j,k,e,d,c,f,h,g⟩=>if(decide (c<d))=true then(if 0≤c then(if c<(List.length e:Int) then(Option.bind (uG f (nth bG e c).2.2.1 g) fun⟨a,b⟩=>if(!a)=true then(cN (cN (some (140,0,(none:Option ZS),())))) else(if ep (.int .i64) h.2.1 b=true then(if bM (.int .i64) h.2.1 h.2.1=true then(if List.length (bA (aO (.int .i64) (.map (.int .i64) .bool) h.2.1 b))+1≤aF then(rec8 (i,j,k,e,d,aQ (c+1),f,h,bK (.int .i64) h.2.1 (some (bK (.int .i64) (nth bG e c).2.2.1 true (bA (aO (.int .i64) (.map (.int .i64) .bool) h.2.1 b)))) b)) else none) else none) else none)) else none) else none) else(some (.aS (i,j,k,f,g)))
def wo:Nat→Zl×Int×Int×Int×ZS→Option (dN (Int×ZS) (Int×gV)):=aL fun aoP ⟨p,o,n,q,r⟩=>if(decide (n<o))=true then(aG (U:=Zl×Int×Int×Int×ZS) (if 0≤n then(if n<(List.length p:Int) then(Option.bind (uG q (nth bX p n).2.1 r) fun⟨a,b⟩=>if(!a)=true then(cN (cN (some (140,0,(none:Option ZS),())))) else(aG (U:=Zl×Int×Int×Int×eU×ZS) (if(!(ep (.int .i64) (nth bX p n).2.1 b))=true then(if ep (.int .i64) (nth bX p n).2.1 b=false then(if bM (.int .i64) (nth bX p n).2.1 (nth bX p n).2.1=true then(if List.length b+1≤aF then(some (.aS (p,o,n,q,nth bX p n,bK (.int .i64) (nth bX p n).2.1 (some ([]:Zr)) (bK (.int .i64) (nth bX p n).2.1 (Ty.aH (.map (.int .i64) .bool)) b)))) else none) else none) else none) else(some (.aS (p,o,n,q,nth bX p n,b)))) fun⟨d,e,f,g,c,h⟩=>sK (Int.toNat (List.length c.2.2.1:Int)+1) (d,e,f,c.2.2.1,(List.length c.2.2.1:Int),0,g,c,h))) else none) else none) fun⟨i,j,k,l,m⟩=>aoP (i,j,aQ (k+1),l,m)) else(some (.aS (q,r)))
def YD(a0:bF):Option (Int×gV):=
 aG (U:=Int×ZS) (wo (Int.toNat (List.length a0.2.2.2.1:Int)+1) (a0.2.2.2.1,(List.length a0.2.2.2.1:Int),0,(List.length a0.2.2.1:Int),([]:ZS))) fun⟨a,b⟩=>some (0,a,some b,())
def afr:SS:=⟨60,100,[tP 2 18,tP 5 21,(14,.val (.slice 96 bX)),tI 15,tI 16],[(18,.var rj (.cons vI (.cons (.mp 27) .nil))),(21,bV bX),(27,.pmap (.int .i64) (.map (.int .i64) .bool) 0)],[]⟩
def YE:SS:=⟨60,100,[tP 2 18,(14,.val (.slice 96 bX)),tI 15,tI 16],[(18,.var rj (.cons vI (.cons (.mp 27) .nil))),(27,.pmap (.int .i64) (.map (.int .i64) .bool) 0)],[]⟩
def afs:SS:=⟨60,100,[tP 2 18],[(18,.var rj (.cons vI (.cons (.mp 27) .nil))),(27,.pmap (.int .i64) (.map (.int .i64) .bool) 0)],[]⟩
def aft:SS:=⟨60,100,[tP 2 18,tP 5 21,(14,.val (.slice 96 bX)),tI 15,tI 16,(38,.val (.slice 96 bG)),tI 39,tI 40],[(18,.var rj (.cons vI (.cons (.mp 27) .nil))),(21,bV bX),(27,.pmap (.int .i64) (.map (.int .i64) .bool) 0)],[]⟩
def afu:SS:=⟨60,100,[tP 2 18,tI 3],[(18,bV rj)],[]⟩
def c94:bH:=aI G [.cell 2 202,.tmp 3] 94 [.val eR] [] 100 afu [] (.bZ (u1 YD))
theorem x94:hS c94:=
 cO ⟨[(2,⟨[.NP 27 0],[],[],none,[],[],[]⟩),hE 5 [cB 0 [(0,27)] []],(8,⟨[],[],[],none,[],[.map 0 27 0 (.c 5 [.d6 1])],[.qT 27]⟩),hE 12 [cB 0 [(0,27)] []],(14,⟨[],[],[],none,[],[.map 1 27 76 (.c 5 [.d6 1])],[.qT 27]⟩),(17,⟨[.Ms 27],[],[],none,[],[],[]⟩)],[(9,afr),(16,YE),(17,afs)],[],[(3,⟨YE,fun u2=>Int.toNat u2.2.1+1⟩),(10,⟨aft,fun u7=>Int.toNat u7.2.2.2.2.1+1⟩)],[],[]⟩ (hq Qw hz) aJ Tryz.call94 Tryz.func94
def Hw(a0:gV):Option gV:=
 some a0
def afv:SS:=⟨4,44,[(2,.func 154 .nil (.cons (pP 17) .nil))],[(17,bV rj)],[]⟩
def Vy:bH:=aI G [.tmp 2] 96 [.val rj] [] 44 afv [17] (.bZ (u1 Hw))
theorem Vz:hS Vy:=
 cO (hR []) hz aJ Tryz.call96 Tryz.func96
def pv:Nat→Int×Int×Int×gV×vY×Zr→Option (dN (Int×Int×gV×vY) (dN vY vY)):=aL fun rec6 ⟨f,b,c,d,e,a⟩=>if List.isEmpty a=true then(some (.aS (b,c,d,e))) else L2 a fun x7 l8=>if 0≤x7.1 then(if x7.1<(List.length e:Int) then(if 0≤x7.1 then(if Int.toNat x7.1=(Int.toNat x7.1) then(if(List.length (List.getD e (Int.toNat x7.1) [])+List.length [f])*8≤aF then(if 0≤x7.1 then(if Int.toNat x7.1=(Int.toNat x7.1) then(rec6 (f,b,c,d,List.set e (Int.toNat x7.1) ((List.getD e (Int.toNat x7.1) [])++[f]),l8)) else none) else none) else none) else none) else none) else none) else none
def pw:Nat→Int×Int×gV×vY→Option (dN vY vY):=aL fun aoP ⟨f,e,g,h⟩=>if(decide (e<f))=true then(aG (U:=Int×Int×gV×vY) (pv (List.length (bA (aO (.int .i64) (.map (.int .i64) .bool) e (bA g.2.1)))+1) (e,f,e,g,h,bA (aO (.int .i64) (.map (.int .i64) .bool) e (bA g.2.1)))) fun⟨a,b,c,d⟩=>aoP (a,aQ (b+1),c,d)) else(some (.aS h))
def EB(a0:gV):Option vY:=
 if 0≤a0.1 then(if a0.1≤a0.1 then(if a0.1*(24:Int)≤(aF:Int) then(aG (U:=vY) (pw (Int.toNat a0.1+1) (a0.1,0,a0,List.replicate (Int.toNat a0.1) [])) fun v1=>some v1) else none) else none) else none
def YF:SS:=⟨35,75,[tP 1 17,(3,.own 24),tI 10,tI 11],[(17,bV rj),(24,.eW 30 24 (.slice 8 (.int .i64)) 3)],[]⟩
def afw:SS:=⟨35,75,[(3,.own 24)],[(24,.eW 30 24 (.slice 8 (.int .i64)) 3)],[]⟩
def afx:SS:=⟨35,75,[tP 1 17,(3,.own 24),tI 4,tI 10,tI 11,tP 18 34],[(17,bV rj),(24,.eW 30 24 (.slice 8 (.int .i64)) 3),(34,.qX (.int .i64) .bool)],[]⟩
def afy:SS:=⟨35,75,[(2,.val (.slice 24 (.slice 8 (.int .i64))))],[],[]⟩
def YG:bH:=aI G [.tmp 2] 155 [.val rj] [] 75 afy [] (.bZ (u1 EB))
theorem afz:hS YG:=
 cO ⟨[(8,⟨[],[],[],none,[],[.row 24 51 (.t 5)],[.vr 24]⟩),(10,⟨[.Ms 24],[],[],none,[],[],[]⟩)],[(9,YF),(10,afw)],[],[(3,⟨YF,fun u2=>Int.toNat u2.1+1⟩),(6,⟨afx,fun u5=>List.length u5.2.2.2.2.2+1⟩)],[],[]⟩ hz aJ Tryz.call155 Tryz.func155
def uH(a0:Zd):Option (Int×Zd):=
 some ((List.length a0:Int),a0)
def afA:SS:=⟨5,45,[tI 2],[(0,.row 3 8 (.int .i64))],[]⟩
def Qx:bH:=aI G [.tmp 2] 157 [.own 0] [(0,.row 3 8 (.int .i64))] 45 afA [0] (.bZ (u1 uH))
theorem Ju:hS Qx:=
 cO (hR []) hz aJ Tryz.call157 Tryz.func157
def px(a0:Int)(a1:Int)(a2:Zd):Option (Bool×Zd):=
 if 0≤a0 then(if a0<(List.length a2:Int) then(if 0≤a1 then(if a1<(List.length a2:Int) then(some (decide ((nth (.int .i64) a2 a0)<(nth (.int .i64) a2 a1)),a2)) else none) else none) else none) else none
def afB:SS:=⟨16,56,[(6,vB)],[(0,.row 3 8 (.int .i64))],[]⟩
def Qz:bH:=aI G [.tmp 6] 265 [.own 0,vI,vI] [(0,.row 3 8 (.int .i64))] 56 afB [0] (.bZ (u3 px))
theorem Jv:hS Qz:=
 cO (hR []) hz aJ Tryz.call265 Tryz.func265
def nW(a0:Int)(a1:Int)(a2:Zd):Option Zd:=
 if 0≤a1 then(if a1<(List.length a2:Int) then(if 0≤a0 then(if a0<(List.length a2:Int) then(if 0≤a0 then(if a0<(List.length a2:Int) then(if 0≤a1 then(if a1<(List.length (List.set a2 (Int.toNat a0) (nth (.int .i64) a2 a1)):Int) then(some (List.set (List.set a2 (Int.toNat a0) (nth (.int .i64) a2 a1)) (Int.toNat a1) (nth (.int .i64) a2 a0))) else none) else none) else none) else none) else none) else none) else none) else none
def afC:SS:=⟨20,60,[],[(0,.row 3 8 (.int .i64))],[]⟩
def QA:bH:=aI G [] 269 [.own 0,vI,vI] [(0,.row 3 8 (.int .i64))] 60 afC [0] (.bZ (u3 nW))
theorem Ct:hS QA:=
 cO (hR []) hz aJ Tryz.call269 Tryz.func269
def tW:Nat→Int×Zd→Option (dN Zd Zd):=aL fun aoP ⟨c,d⟩=>if(decide ((aQ (Int.tdiv (aQ (c -(1:Int))) (2:Int)))=c))=true then(some (.aS d)) else(Option.bind (px c (aQ (Int.tdiv (aQ (c -(1:Int))) (2:Int))) d) fun⟨a,b⟩=>if(!a)=true then(some (.aS b)) else(Option.bind (nW (aQ (Int.tdiv (aQ (c -(1:Int))) (2:Int))) c b) fun y5=>aoP (aQ (Int.tdiv (aQ (c -(1:Int))) (2:Int)),y5)))
def Cu(a0:Int)(a1:Zd):Option Zd:=
 aG (U:=Zd) (tW dA (a0,a1)) fun v1=>some v1
def YH:SS:=⟨23,63,[],[(0,.var mF (.cons (.own 1) .nil)),(1,.row 3 8 (.int .i64))],[]⟩
def afD:SS:=⟨23,63,[(0,.iface 281 (pP 0)),tI 1],[(0,.var mF (.cons (.own 1) .nil)),(1,.row 3 8 (.int .i64))],[]⟩
def QB:bH:=aI G [] 229 [.iface 281 (pP 0),vI] [(0,.var mF (.cons (.own 1) .nil)),(1,.row 3 8 (.int .i64))] 63 YH [0,1] (.bZ (u2 Cu))
theorem QC:hS QB:=
 cO ⟨[hE 1 [cB 0 [(0,1)] []],hE 2 [cB 1 [(0,1)] []]],[],[(0,YH)],[(0,⟨afD,fun _=>dA⟩)],[],[]⟩ (hq Jv (hq Ct hz)) aJ Tryz.call229 Tryz.func229
def Cv(a0:Int)(a1:Zd):Option Zd:=
 if(List.length a1+List.length [a0])*8≤aF then(some (a1++[a0])) else none
def afE:SS:=⟨22,62,[],[(0,.var mF (.cons (.own 35) .nil)),(35,.row 3 8 (.int .i64))],[]⟩
def QD:bH:=aI G [] 267 [pP 0,.iface 3 vI] [(0,.var mF (.cons (.own 1) .nil)),(1,.row 3 8 (.int .i64))] 62 afE [0,35] (.bZ (u2 Cv))
theorem QE:hS QD:=
 cO (hR []) hz aJ Tryz.call267 Tryz.func267
def uI(a0:Int)(a1:Zd):Option Zd:=
 Option.bind (Cv a0 a1) fun y1=>Option.bind (uH y1) fun⟨a,b⟩=>Option.bind (Cu (aQ (a -(1:Int))) b) fun y3=>some y3
def afF:SS:=⟨12,52,[],[(0,.var mF (.cons (.own 22) .nil)),(22,.row 3 8 (.int .i64))],[]⟩
def Jw:bH:=aI G [] 156 [.iface 281 (pP 0),.iface 3 vI] [(0,.var mF (.cons (.own 1) .nil)),(1,.row 3 8 (.int .i64))] 52 afF [0,22] (.bZ (u2 uI))
theorem QF:hS Jw:=
 cO (hR [hE 0 [cB 0 [(0,0),(1,1)] [(35,22)]],hE 1 [cB 1 [(0,22)] [],cB 2 [(0,0),(1,22)] []]]) (hq QE (hq Ju (hq QC hz))) aJ Tryz.call156 Tryz.func156
def A5(a0:Zd):Dm:=
 some (List.length a0:Int)
def afG:SS:=⟨5,45,[tI 2],[],[]⟩
def YI:bH:=aI G [.tmp 2] 157 [.val (.slice 8 (.int .i64))] [] 45 afG [] (.bZ (u1 A5))
theorem afH:hS YI:=
 cO (hR []) hz aJ Tryz.call157 Tryz.func157
end Go.Proofs.YtkhfnbfpgcjllaaGreatDoor
