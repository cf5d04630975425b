/- part -/
import Derived.Test.YtpmlkhjpbjnagaaGreatF2
noncomputable section
namespace Go.Proofs.YtpmlkhjpbjnagaaGreat
open Go.Ax
def Lv(a0:dD)(a1:dD):Zo:=
 Option.bind (α:=Bool) (if(decide (a0.1=a1.1))=true then(if(decide (a0.2.1=a1.2.1))=true then(Option.bind (Tg a0.2.2.1 a1.2.2.1) fun y1=>if y1=true then(Option.bind (Th a0.2.2.2.1 a1.2.2.2.1) fun y2=>if y2=true then(Option.bind (Ti a0.2.2.2.2.1 a1.2.2.2.2.1) fun y3=>some y3) else(some false)) else(some false)) else(some false)) else(some false)) fun v4=>some v4
def aeg:SS:=⟨38,78,[(4,vB)],[],[]⟩
def aeh:aX:=aE G [.tmp 4] 150 [.val bZ,.val bZ] [] 78 aeg [] (.bH (u2 Lv))
theorem aei:hS aeh:=
 cO (hR [hD 1 4 [cA 0,cA 1,cA 2]]) (hq acU (hq acX (hq ac0 hz))) aJ Tryz.call150 Tryz.func150
def Eo:Nat→Zq×Zq×wJ→Zy:=aK fun am3 ⟨d,c,b,a⟩=>if(decide (a<b))=true then(if 0≤a then(if a<(c.length:Int) then(if 0≤a then(if a<(d.length:Int) then(Option.bind (Lv (nth bZ c a) (nth bZ d a)) fun y4=>if(!y4)=true then(cw (some false)) else(am3 (d,c,b,aZ (a+1)))) else none) else none) else none) else none) else(some (.bA ()))
def zV(a0:Zq)(a1:Zq):Zo:=
 if(!decide ((a0.length:Int)=(a1.length:Int)))=true then(some false) else(aH (U:=Unit) (Eo (Int.toNat (a0.length:Int)+1) (a1,a0,(a0.length:Int),0)) fun _=>some true)
def aej:SS:=⟨32,72,[(1,.val (.slice 96 bZ)),(2,.func 150 .nil .nil),(15,.val (.slice 96 bZ)),tI 16,tI 17],[],[]⟩
def OR:aX:=aE G [.tmp 6] 149 [.val (.slice 96 bZ),.val (.slice 96 bZ),.func 150 .nil .nil] [] 72 NH [] (.bH (u2 zV))
theorem OS:hS OR:=
 cO ⟨[hA 7 0],[(10,NG)],[],[(4,⟨aej,fun u2=>Int.toNat u2.2.2.1+1⟩)],[],[]⟩ (hq aei hz) aJ Tryz.call149 Tryz.func149
def OT:Nat→Zz×Zz×wJ→Zy:=aK fun am3 ⟨c,d,b,a⟩=>if(decide (a<b))=true then(if 0≤a then(if a<(c.length:Int) then(if 0≤a then(if a<(d.length:Int) then(if(!bD aT (nth aT c a) (nth aT d a))=true then(cw (some false)) else(am3 (c,d,b,aZ (a+1)))) else none) else none) else none) else none) else(some (.bA ()))
def Ud(a0:Zz)(a1:Zz):Zo:=
 if(!decide ((a0.length:Int)=(a1.length:Int)))=true then(some false) else(aH (U:=Unit) (OT (Int.toNat (a0.length:Int)+1) (a0,a1,(a0.length:Int),0)) fun _=>some true)
def aek:aX:=aE G [.tmp 4] 213 [.val (.slice 56 aT),.val (.slice 56 aT)] [] 66 R6 [] (.bH (u2 Ud))
theorem ael:hS aek:=
 cO ⟨[],[(9,R5)],[],[(4,⟨s99,fun u2=>Int.toNat u2.2.2.1+1⟩)],[],[]⟩ hz aJ Tryz.call213 Tryz.func213
def Lw(a0:rW)(a1:rW):Zo:=
 Option.bind (α:=Bool) (if(decide (a0.1=a1.1))=true then(if(decide (a0.2.1=a1.2.1))=true then(if(decide (a0.2.2.1=a1.2.2.1))=true then(if(decide (a0.2.2.2.1=a1.2.2.2.1))=true then(Option.bind (Ud a0.2.2.2.2.1 a1.2.2.2.2.1) fun y1=>some y1) else(some false)) else(some false)) else(some false)) else(some false)) fun v2=>some v2
def aem:SS:=⟨38,78,[(4,vB)],[],[]⟩
def aen:aX:=aE G [.tmp 4] 152 [.val gA,.val gA] [] 78 aem [] (.bH (u2 Lw))
theorem aeo:hS aen:=
 cO (hR [hD 1 4 [cA 0]]) (hq ael hz) aJ Tryz.call152 Tryz.func152
def Ep:Nat→ZN×ZN×wJ→Zy:=aK fun am3 ⟨d,c,b,a⟩=>if(decide (a<b))=true then(if 0≤a then(if a<(c.length:Int) then(if 0≤a then(if a<(d.length:Int) then(Option.bind (Lw (nth gA c a) (nth gA d a)) fun y4=>if(!y4)=true then(cw (some false)) else(am3 (d,c,b,aZ (a+1)))) else none) else none) else none) else none) else(some (.bA ()))
def zW(a0:ZN)(a1:ZN):Zo:=
 if(!decide ((a0.length:Int)=(a1.length:Int)))=true then(some false) else(aH (U:=Unit) (Ep (Int.toNat (a0.length:Int)+1) (a1,a0,(a0.length:Int),0)) fun _=>some true)
def aep:SS:=⟨32,72,[(1,.val (.slice 72 gA)),(2,.func 152 .nil .nil),(15,.val (.slice 72 gA)),tI 16,tI 17],[],[]⟩
def OU:aX:=aE G [.tmp 6] 151 [.val (.slice 72 gA),.val (.slice 72 gA),.func 152 .nil .nil] [] 72 NH [] (.bH (u2 zW))
theorem OV:hS OU:=
 cO ⟨[hA 7 0],[(10,NG)],[],[(4,⟨aep,fun u2=>Int.toNat u2.2.2.1+1⟩)],[],[]⟩ (hq aeo hz) aJ Tryz.call151 Tryz.func151
def OW:Nat→List pj×List pj×wJ→Zy:=aK fun am3 ⟨c,d,b,a⟩=>if(decide (a<b))=true then(if 0≤a then(if a<(c.length:Int) then(if 0≤a then(if a<(d.length:Int) then(if(!bD fg (nth fg c a) (nth fg d a))=true then(cw (some false)) else(am3 (c,d,b,aZ (a+1)))) else none) else none) else none) else none) else(some (.bA ()))
def Ue(a0:List pj)(a1:List pj):Zo:=
 if(!decide ((a0.length:Int)=(a1.length:Int)))=true then(some false) else(aH (U:=Unit) (OW (Int.toNat (a0.length:Int)+1) (a0,a1,(a0.length:Int),0)) fun _=>some true)
def aeq:SS:=⟨26,66,[(0,.val (.slice 48 fg)),(1,.val (.slice 48 fg)),tI 12,tI 13],[],[]⟩
def aer:aX:=aE G [.tmp 4] 214 [.val (.slice 48 fg),.val (.slice 48 fg)] [] 66 R6 [] (.bH (u2 Ue))
theorem aes:hS aer:=
 cO ⟨[],[(9,R5)],[],[(4,⟨aeq,fun u2=>Int.toNat u2.2.2.1+1⟩)],[],[]⟩ hz aJ Tryz.call214 Tryz.func214
def Lx(a0:oi)(a1:oi):Zo:=
 Option.bind (α:=Bool) (if(decide (a0.1=a1.1))=true then(if(decide (a0.2.2.1=a1.2.2.1))=true then(Option.bind (Ue a0.2.1 a1.2.1) fun y1=>some y1) else(some false)) else(some false)) fun v2=>some v2
def aet:SS:=⟨24,64,[(4,vB)],[],[]⟩
def aeu:aX:=aE G [.tmp 4] 154 [.val dY,.val dY] [] 64 aet [] (.bH (u2 Lx))
theorem aev:hS aeu:=
 cO (hR [hD 1 4 [cA 0]]) (hq aes hz) aJ Tryz.call154 Tryz.func154
def Er:Nat→ZI×ZI×wJ→Zy:=aK fun am3 ⟨d,c,b,a⟩=>if(decide (a<b))=true then(if 0≤a then(if a<(c.length:Int) then(if 0≤a then(if a<(d.length:Int) then(Option.bind (Lx (nth dY c a) (nth dY d a)) fun y4=>if(!y4)=true then(cw (some false)) else(am3 (d,c,b,aZ (a+1)))) else none) else none) else none) else none) else(some (.bA ()))
def zX(a0:ZI)(a1:ZI):Zo:=
 if(!decide ((a0.length:Int)=(a1.length:Int)))=true then(some false) else(aH (U:=Unit) (Er (Int.toNat (a0.length:Int)+1) (a1,a0,(a0.length:Int),0)) fun _=>some true)
def aew:SS:=⟨32,72,[(1,.val (.slice 48 dY)),(2,.func 154 .nil .nil),(15,.val (.slice 48 dY)),tI 16,tI 17],[],[]⟩
def OX:aX:=aE G [.tmp 6] 153 [.val (.slice 48 dY),.val (.slice 48 dY),.func 154 .nil .nil] [] 72 NH [] (.bH (u2 zX))
theorem OY:hS OX:=
 cO ⟨[hA 7 0],[(10,NG)],[],[(4,⟨aew,fun u2=>Int.toNat u2.2.2.1+1⟩)],[],[]⟩ (hq aev hz) aJ Tryz.call153 Tryz.func153
def Ly(a0:cM)(a1:cM):Zo:=
 Option.bind (α:=Bool) (Option.bind (BC a0.1 a1.1) fun y1=>if y1=true then(Option.bind (Tf a0.2.1 a1.2.1) fun y2=>if y2=true then(Option.bind (yS a0.2.2.1 a1.2.2.1) fun y3=>if y3=true then(Option.bind (zV a0.2.2.2.1 a1.2.2.2.1) fun y4=>if y4=true then(Option.bind (zW a0.2.2.2.2.1 a1.2.2.2.2.1) fun y5=>if y5=true then(Option.bind (zX a0.2.2.2.2.2.1 a1.2.2.2.2.2.1) fun y6=>some y6) else(some false)) else(some false)) else(some false)) else(some false)) else(some false)) fun v7=>some v7
def aex:SS:=⟨45,85,[(4,vB)],[],[]⟩
def aey:aX:=aE G [.tmp 4] 105 [.val iI,.val iI] [] 85 aex [] (.bH (u2 Ly))
theorem XZ:hS aey:=
 cO (hR [hD 1 4 [cA 0,cA 1,cA 2,cA 3,cA 4,cA 5]]) (hq JB (hq acD (hq NJ (hq OS (hq OV (hq OY hz)))))) aJ Tryz.call105 Tryz.func105
def f99(a0:cM):ZW:=
 Option.bind (Nx a0) fun⟨b,a⟩=>if(!decide (a=(0:Int)))=true then(some a) else(Option.bind (Ly b a0) fun y2=>if(!y2)=true then(some (160:Int)) else(some (0:Int)))
def aez:SS:=⟨16,56,[tI 2],[],[]⟩
def c99:aX:=aE G [.tmp 2] 99 [.val iI] [] 56 aez [] (.bH (u1 f99))
theorem x99:hS c99:=
 cO (hR [hA 1 0,hA 4 1]) (hq acA (hq XZ hz)) aJ Tryz.call99 Tryz.func99
def Uf(a0:oi):Zo:=
 some (decide ((64:Int)<(List.length a0.2.1:Int)))
def aeA:SS:=⟨7,47,[(2,vB)],[],[]⟩
def aeB:aX:=aE G [.tmp 2] 184 [.val dY] [] 47 aeA [] (.bH (u1 Uf))
theorem aeC:hS aeB:=
 cO (hR []) hz aJ Tryz.call184 Tryz.func184
def Es:Nat→ZI×wJ→Option (cH Unit Int):=aK fun am3 ⟨c,b,a⟩=>if(decide (a<b))=true then(if 0≤a then(if a<(c.length:Int) then(Option.bind (Uf (nth dY c a)) fun y4=>if y4=true then(cw (some a)) else(am3 (c,b,aZ (a+1)))) else none) else none) else(some (.bA ()))
def zY(a0:ZI):ZW:=
 aH (U:=Unit) (Es (Int.toNat (a0.length:Int)+1) (a0,(a0.length:Int),0)) fun _=>some (-1:Int)
def aeD:SS:=⟨19,59,[],[],[]⟩
def aeE:SS:=⟨19,59,[(0,.val (.slice 48 dY)),(1,.func 184 .nil .nil),tI 7,tI 8],[],[]⟩
def aeF:SS:=⟨19,59,[tI 4],[],[]⟩
def OZ:aX:=aE G [.tmp 4] 243 [.val (.slice 48 dY),.func 184 .nil .nil] [] 59 aeF [] (.bH (u1 zY))
theorem O0:hS OZ:=
 cO ⟨[hA 4 0],[(7,aeD)],[],[(2,⟨aeE,fun u2=>Int.toNat u2.2.1+1⟩)],[],[]⟩ (hq aeC hz) aJ Tryz.call243 Tryz.func243
def t6(a0:ZI):Zo:=
 Option.bind (zY a0) fun y1=>some (decide ((0:Int)≤y1))
def Lz:SS:=⟨9,49,[(4,vB)],[],[]⟩
def O3:aX:=aE G [.tmp 4] 183 [.val (.slice 48 dY),.func 184 .nil .nil] [] 49 Lz [] (.bH (u1 t6))
theorem O4:hS O3:=
 cO (hR [hA 1 0]) (hq O0 hz) aJ Tryz.call183 Tryz.func183
def O5(a0:dJ):Zo:=
 Option.bind (α:=Bool) (if(decide ((8:Int)<(List.length a0.1.1:Int)))=true then(some true) else(if(decide ((64:Int)<(List.length a0.1.2.1:Int)))=true then(some true) else(if(decide ((16:Int)<(List.length a0.1.2.2.1:Int)))=true then(some true) else(if(decide ((16:Int)<(List.length a0.1.2.2.2.1:Int)))=true then(some true) else(if(decide ((16:Int)<(List.length a0.1.2.2.2.2.1:Int)))=true then(some true) else(some (decide ((8:Int)<(List.length a0.1.2.2.2.2.2.1:Int))))))))) fun v1=>if v1=true then(some false) else(Option.bind (t6 a0.1.2.2.2.2.2.1) fun y2=>some (!y2))
def aeG:SS:=⟨48,88,[(2,vB)],[],[]⟩
def aeH:aX:=aE G [.tmp 2] 128 [.val iJ] [] 88 aeG [] (.bH (u1 O5))
theorem aeI:hS aeH:=
 cO (hR [hD 1 42 [],hA 3 0]) (hq O4 hz) aJ Tryz.call128 Tryz.func128
def CD(a0:dJ)(a1:gQ):Zo:=
 Option.bind (α:=Bool) (if(decide ((1:Int)≤a1.2.2.2.2.1))=true then(if(decide (a1.2.2.2.2.1≤(1099511627776:Int)))=true then(if(decide ((0:Int)≤a1.2.2.2.1))=true then(if(decide (a1.2.2.2.1<(List.length a0.1.2.1:Int)))=true then(if 0≤a1.2.2.2.1 then(if a1.2.2.2.1<(List.length a0.1.2.1:Int) then(some (decide ((nth aT a0.1.2.1 a1.2.2.2.1).2.2.2.2.1=(1:Int)))) else none) else none) else(some false)) else(some false)) else(some false)) else(some false)) fun v1=>some v1
def aeJ:SS:=⟨38,78,[(4,vB)],[],[]⟩
def aeK:aX:=aE G [.tmp 4] 132 [.val iJ,.val aT] [] 78 aeJ [] (.bH (u2 CD))
theorem X0:hS aeK:=
 cO (hR [hD 1 4 []]) hz aJ Tryz.call132 Tryz.func132
def qD(a0:gQ)(a1:dJ):Sv:=
 Option.bind (CD a1 a0) fun y1=>some (!y1,a1)
def Sq:List (Nat×dj):=[(0,.var (.aS .func) (.fE 132 iJ))]
def aeL:SS:=⟨8,48,[(3,vB)],Sq,[]⟩
def O6:aX:=aE G [.tmp 3] 190 [.val aT,pP 0] Sq 48 aeL [0] (.bH (u2 qD))
theorem O7:hS O6:=
 cO (hR [hA 1 0]) (hq X0 hz) aJ Tryz.call190 Tryz.func190
def Et:Nat→Zz×Int×C1→Option (cH dJ C1):=aK fun am3 ⟨e,d,c,f⟩=>if(decide (c<d))=true then(if 0≤c then(if c<(e.length:Int) then(Option.bind (qD (nth aT e c) f) fun⟨a,b⟩=>if a=true then(cw (some (c,b))) else(am3 (e,d,aZ (c+1),b))) else none) else none) else(some (.bA f))
def zZ(a0:Zz)(a1:dJ):Option C1:=
 aH (U:=dJ) (Et (Int.toNat (a0.length:Int)+1) (a0,(a0.length:Int),0,a1)) fun v1=>some ((-1:Int),v1)
def aeM:SS:=⟨19,59,[],Sq,[]⟩
def aeN:SS:=⟨19,59,[(0,.val (.slice 56 aT)),(1,.func 190 .nil (.cons (pP 0) .nil)),tI 7,tI 8],Sq,[]⟩
def aeO:SS:=⟨19,59,[tI 4],Sq,[]⟩
def O8:aX:=aE G [.tmp 4] 247 [.val (.slice 56 aT),.func 190 .nil (.cons (pP 0) .nil)] Sq 59 aeO [0] (.bH (u2 zZ))
theorem O9:hS O8:=
 cO ⟨[hE 4 [cB 0 [(0,0)] []]],[(7,aeM)],[],[(2,⟨aeN,fun u2=>Int.toNat u2.2.1+1⟩)],[],[]⟩ (hq O7 hz) aJ Tryz.call247 Tryz.func247
def z8(a0:Zz)(a1:dJ):Sv:=
 Option.bind (zZ a0 a1) fun⟨a,b⟩=>some (decide ((0:Int)≤a),b)
def aeP:SS:=⟨9,49,[(4,vB)],Sq,[]⟩
def Pa:aX:=aE G [.tmp 4] 189 [.val (.slice 56 aT),.func 190 .nil (.cons (pP 0) .nil)] Sq 49 aeP [0] (.bH (u2 z8))
theorem Pb:hS Pa:=
 cO (hR [hE 1 [cB 0 [(0,0)] []]]) (hq O9 hz) aJ Tryz.call189 Tryz.func189
def t7(a0:Zz)(a1:dJ):Zo:=
 Option.bind (z8 a0 a1) fun⟨a,_⟩=>some (!a)
def Pc:aX:=aE G [.tmp 4] 131 [.val (.slice 56 aT),.fE 132 iJ] [] 49 Lz [] (.bH (u2 t7))
theorem Pd:hS Pc:=
 cO (hR [hE 1 [cB 0 [(0,19)] []]]) (hq Pb hz) aJ Tryz.call131 Tryz.func131
def Pe:Option (List (Option Nat)):=
 some [none,some 259,some 260,some 261,some 262]
def aeQ:SS:=⟨2,42,[tP 0 16],[(16,.var (.fns 5) (.val (.fns 5)))],[]⟩
def Pf:aX:=aE G [.cell 0 356] 221 [] [] 42 aeQ [] (.bH (fun _=>Pe))
theorem Pg:hS Pf:=
 cO (hR []) hz aJ Tryz.call221 Tryz.func221
def Aa:Nat→ZQ×Int×Int×List (Zj×Bool)→Zy:=aK fun am3 ⟨c,b,a,d⟩=>if(decide (a<b))=true then(if 0≤a then(if a<(c.length:Int) then(if(aQ .str .bool (nth .str c a) d)=true then(cw (some false)) else(if d.length+1≤aG then(am3 (c,b,aZ (a+1),bC .str (nth .str c a) true d)) else none)) else none) else none) else(some (.bA ()))
def Ug(a0:ZQ):Zo:=
 aH (U:=Unit) (Aa (Int.toNat (a0.length:Int)+1) (a0,(a0.length:Int),0,([]:List (Zj×Bool)))) fun _=>some true
def aeR:SS:=⟨21,61,[],[],[]⟩
def aeS:SS:=⟨21,61,[(3,.mp 24),(9,.val (.slice 16 .str)),tI 10,tI 11],[(24,.map .str .bool)],[]⟩
def aeT:SS:=⟨21,61,[(2,vB)],[],[]⟩
def aeU:aX:=aE G [.tmp 2] 263 [.val (.slice 16 .str)] [] 61 aeT [] (.bH (u1 Ug))
theorem aeV:hS aeU:=
 cO ⟨[],[(9,aeR)],[],[(3,⟨aeS,fun u2=>Int.toNat u2.2.1+1⟩)],[],[]⟩ hz aJ Tryz.call263 Tryz.func263
def H8(a0:dT)(_a1:Int):Zo:=
 Option.bind (α:=Bool) (if(decide (a0.2.1=(0:Int)))=true then(if(decide (a0.2.2.1=(aZ ((List.length a0.2.2.2.2.2.1:Int) -(1:Int)))))=true then(if(decide (a0.2.2.2.2.1=(-1:Int)))=true then(if(decide ((1:Int)≤(List.length a0.2.2.2.2.2.1:Int)))=true then(if(decide ((List.length a0.2.2.2.2.2.1:Int)≤(16:Int)))=true then(Option.bind (Ug a0.2.2.2.2.2.1) fun y1=>some y1) else(some false)) else(some false)) else(some false)) else(some false)) else(some false)) fun v2=>some v2
def aeW:SS:=⟨39,79,[(4,vB)],[],[]⟩
def aeX:aX:=aE G [.tmp 4] 262 [.val fO,vI] [] 79 aeW [] (.bH (u2 H8))
theorem aeY:hS aeX:=
 cO (hR [hD 1 4 [cA 0]]) (hq aeV hz) aJ Tryz.call262 Tryz.func262
def H9(a0:dT)(_a1:Int):Zo:=
 Option.bind (α:=Bool) (if(decide (a0.2.1=(0:Int)))=true then(if(decide (a0.2.2.1=(4095:Int)))=true then(if(decide (a0.2.2.2.2.1=(-1:Int)))=true then(some (decide ((List.length a0.2.2.2.2.2.1:Int)=(0:Int)))) else(some false)) else(some false)) else(some false)) fun v1=>some v1
def X1:SS:=⟨24,64,[(4,vB)],[],[]⟩
def aeZ:aX:=aE G [.tmp 4] 261 [.val fO,vI] [] 64 X1 [] (.bH (u2 H9))
theorem ae0:hS aeZ:=
 cO (hR [hD 1 4 []]) hz aJ Tryz.call261 Tryz.func261
def Ia(a0:dT)(_a1:Int):Zo:=
 Option.bind (α:=Bool) (if(decide (a0.2.1=(0:Int)))=true then(if(decide (a0.2.2.1=(1023:Int)))=true then(if(decide (a0.2.2.2.2.1=(-1:Int)))=true then(some (decide ((List.length a0.2.2.2.2.2.1:Int)=(0:Int)))) else(some false)) else(some false)) else(some false)) fun v1=>some v1
def ae1:aX:=aE G [.tmp 4] 260 [.val fO,vI] [] 64 X1 [] (.bH (u2 Ia))
theorem ae2:hS ae1:=
 cO (hR [hD 1 4 []]) hz aJ Tryz.call260 Tryz.func260
def Ib(a0:dT)(a1:Int):Zo:=
 Option.bind (α:=Bool) (if(decide ((0:Int)≤a0.2.1))=true then(if(decide (a0.2.1≤a0.2.2.1))=true then(if(decide (a0.2.2.1≤(1048576:Int)))=true then(if(decide ((-1:Int)≤a0.2.2.2.2.1))=true then(if(decide (a0.2.2.2.2.1<a1))=true then(some (decide ((List.length a0.2.2.2.2.2.1:Int)=(0:Int)))) else(some false)) else(some false)) else(some false)) else(some false)) else(some false)) fun v1=>some v1
def ae3:SS:=⟨37,77,[(4,vB)],[],[]⟩
def ae4:aX:=aE G [.tmp 4] 259 [.val fO,vI] [] 77 ae3 [] (.bH (u2 Ib))
theorem ae5:hS ae4:=
 cO (hR [hD 1 4 []]) hz aJ Tryz.call259 Tryz.func259
def ni(a0:dJ)(a1:dT):Zo:=
 aH (U:=dJ×dT) (Option.bind (α:=Bool) (if(decide (a1.1<(1:Int)))=true then(some true) else(some (decide ((4:Int)<a1.1)))) fun v2=>if v2=true then(cw (some false)) else(some (.bA (a0,a1)))) fun⟨b,a⟩=>if 0≤a.1 then(if a.1<(5:Int) then(if a.1=(0:Int) then none else(if a.1=(1:Int) then(Option.bind (Ib a (List.length b.1.2.1:Int)) fun y6=>some y6) else(if a.1=(2:Int) then(Option.bind (Ia a (List.length b.1.2.1:Int)) fun y5=>some y5) else(if a.1=(3:Int) then(Option.bind (H9 a (List.length b.1.2.1:Int)) fun y4=>some y4) else(if a.1=(4:Int) then(Option.bind (H8 a (List.length b.1.2.1:Int)) fun y3=>some y3) else none))))) else none) else none
def ae6:SS:=⟨23,63,[tP 2 18,tP 3 19],[(18,bV iJ),(19,bV fO)],[]⟩
def ae7:SS:=⟨23,63,[(4,vB)],[],[]⟩
def ae8:aX:=aE G [.tmp 4] 168 [.val iJ,.val fO] [] 63 ae7 [] (.bH (u2 ni))
theorem Uh:hS ae8:=
 cO ⟨[hD 1 12 [],hE 3 [cA 0,⟨[1,2,3,4],[],[],[],[]⟩]],[(3,ae6)],[],[],[],[]⟩ (hq Pg (hq aeY (hq ae0 (hq ae2 (hq ae5 hz))))) aJ Tryz.call168 Tryz.func168
def nR:Nat→ZL×Int×Int×Uz×C1→Option (cH (ZL×Int×C1) (cH Unit Bool)):=aK fun rec9 ⟨c,d,e,b,a,f⟩=>if(decide (a<(4:Int)))=true then(if 0≤a then(if a<(4:Int) then(Option.bind (α:=Bool) (if(decide ((nth qr b a)<(0:Int)))=true then(some true) else(some (decide ((9:Int)<(nth qr b a))))) fun v10=>if v10=true then(cw (cw (some false))) else(rec9 (c,d,e,b,aZ (a+1),f))) else none) else none) else(some (.bA (c,d,e,f)))
def t8:Nat→ZL×Int×C1→Zy:=aK fun anz ⟨g,f,e,h⟩=>if(decide (e<f))=true then(aH (U:=ZL×Int×C1) (if 0≤e then(if e<(g.length:Int) then(Option.bind (ni h (nth ck g e).2.1) fun y7=>if(!y7)=true then(cw (cw (some false))) else(nR (Int.toNat (4:Int)+1) (g,f,e,(nth ck g e).2.2.1,0,h))) else none) else none) fun⟨a,b,c,d⟩=>anz (a,b,aZ (c+1),d)) else(some (.bA ()))
def LA(a0:dJ)(a1:lJ):Zo:=
 aH (U:=dJ×lJ) (Option.bind (α:=Bool) (if(decide (a1.2.2.1<(0:Int)))=true then(some true) else(if(decide ((List.length a0.1.1:Int)≤a1.2.2.1))=true then(some true) else(if(decide (a1.2.2.2.1<(1:Int)))=true then(some true) else(if(decide ((255:Int)<a1.2.2.2.1))=true then(some true) else(if(decide ((List.length a1.2.2.2.2.1:Int)<(1:Int)))=true then(some true) else(if(decide ((12:Int)<(List.length a1.2.2.2.2.1:Int)))=true then(some true) else(if(0:Int)<(List.length a1.2.2.2.2.1:Int) then(some (!decide ((nth ck a1.2.2.2.2.1 (0:Int)).2.1.1=(3:Int)))) else none))))))) fun v2=>if v2=true then(cw (some false)) else(some (.bA (a0,a1)))) fun⟨b,a⟩=>aH (U:=Unit) (t8 (Int.toNat (List.length a.2.2.2.2.1:Int)+1) (a.2.2.2.2.1,(List.length a.2.2.2.2.1:Int),0,b)) fun _=>some true
def ae9:SS:=⟨77,117,[tP 2 18,tP 3 19],[(18,bV iJ),(19,bV bR)],[]⟩
def X2:SS:=⟨77,117,[tP 2 18,(53,.val (.slice 120 ck)),tI 54,tI 55],[(18,bV iJ)],[]⟩
def afa:SS:=⟨77,117,[],[],[]⟩
def afb:SS:=⟨77,117,[tP 2 18,(53,.val (.slice 120 ck)),tI 54,tI 55,(65,.val CL),tI 66],[(18,bV iJ)],[]⟩
def afc:SS:=⟨77,117,[(4,vB)],[],[]⟩
def afd:aX:=aE G [.tmp 4] 134 [.val iJ,.val bR] [] 117 afc [] (.bH (u2 LA))
theorem afe:hS afd:=
 cO ⟨[hD 1 51 [],hA 6 0,hD 11 74 []],[(3,ae9),(14,X2),(15,afa)],[],[(4,⟨X2,fun u4=>Int.toNat u4.2.1+1⟩),(9,⟨afb,fun _=>Int.toNat (4:Int)+1⟩)],[],[]⟩ (hq Uh hz) aJ Tryz.call134 Tryz.func134
def qE(a0:lJ)(a1:dJ):Sv:=
 Option.bind (LA a1 a0) fun y1=>some (!y1,a1)
def Sr:List (Nat×dj):=[(0,.var (.aS .func) (.fE 134 iJ))]
def aff:SS:=⟨8,48,[(3,vB)],Sr,[]⟩
def Ph:aX:=aE G [.tmp 3] 192 [.val bR,pP 0] Sr 48 aff [0] (.bH (u2 qE))
theorem Pj:hS Ph:=
 cO (hR [hA 1 0]) (hq afe hz) aJ Tryz.call192 Tryz.func192
def Eu:Nat→ZK×Int×C1→Option (cH dJ C1):=aK fun am3 ⟨e,d,c,f⟩=>if(decide (c<d))=true then(if 0≤c then(if c<(e.length:Int) then(Option.bind (qE (nth bR e c) f) fun⟨a,b⟩=>if a=true then(cw (some (c,b))) else(am3 (e,d,aZ (c+1),b))) else none) else none) else(some (.bA f))
def Ab(a0:ZK)(a1:dJ):Option C1:=
 aH (U:=dJ) (Eu (Int.toNat (a0.length:Int)+1) (a0,(a0.length:Int),0,a1)) fun v1=>some ((-1:Int),v1)
def afg:SS:=⟨19,59,[],Sr,[]⟩
def afh:SS:=⟨19,59,[(0,.val (.slice 96 bR)),(1,.func 192 .nil (.cons (pP 0) .nil)),tI 7,tI 8],Sr,[]⟩
def afi:SS:=⟨19,59,[tI 4],Sr,[]⟩
def Pk:aX:=aE G [.tmp 4] 248 [.val (.slice 96 bR),.func 192 .nil (.cons (pP 0) .nil)] Sr 59 afi [0] (.bH (u2 Ab))
theorem Pm:hS Pk:=
 cO ⟨[hE 4 [cB 0 [(0,0)] []]],[(7,afg)],[],[(2,⟨afh,fun u2=>Int.toNat u2.2.1+1⟩)],[],[]⟩ (hq Pj hz) aJ Tryz.call248 Tryz.func248
def Ac(a0:ZK)(a1:dJ):Sv:=
 Option.bind (Ab a0 a1) fun⟨a,b⟩=>some (decide ((0:Int)≤a),b)
def afj:SS:=⟨9,49,[(4,vB)],Sr,[]⟩
def Pn:aX:=aE G [.tmp 4] 191 [.val (.slice 96 bR),.func 192 .nil (.cons (pP 0) .nil)] Sr 49 afj [0] (.bH (u2 Ac))
theorem Po:hS Pn:=
 cO (hR [hE 1 [cB 0 [(0,0)] []]]) (hq Pm hz) aJ Tryz.call191 Tryz.func191
def t9(a0:ZK)(a1:dJ):Zo:=
 Option.bind (Ac a0 a1) fun⟨a,_⟩=>some (!a)
def Pp:aX:=aE G [.tmp 4] 133 [.val (.slice 96 bR),.fE 134 iJ] [] 49 Lz [] (.bH (u2 t9))
theorem Pq:hS Pp:=
 cO (hR [hE 1 [cB 0 [(0,19)] []]]) (hq Po hz) aJ Tryz.call133 Tryz.func133
def Ad(a0:dJ)(a1:Int)(a2:Int):Option (Bool×dT):=
 aH (U:=Int×Int×dJ×Int×Int×Int×Zj×Int) (Option.bind (α:=Bool) (if(decide (a1<(0:Int)))=true then(some true) else(if(decide ((List.length a0.1.2.2.1:Int)≤a1))=true then(some true) else(if(decide (a2<(0:Int)))=true then(some true) else(if 0≤a1 then(if a1<(List.length a0.1.2.2.1:Int) then(some (decide ((List.length (nth bR a0.1.2.2.1 a1).2.2.2.2.1:Int)≤a2))) else none) else none)))) fun v2=>if v2=true then(cw (some (false,0,0,0,[],0,([]:ZQ),()))) else(some (.bA (a1,a2,a0,0,0,0,[],0)))) fun⟨a,c,b,_,_,_,_,_⟩=>if 0≤a then(if a<(List.length b.1.2.2.1:Int) then(if 0≤c then(if c<(List.length (nth bR b.1.2.2.1 a).2.2.2.2.1:Int) then(some (true,(nth ck (nth bR b.1.2.2.1 a).2.2.2.2.1 c).2.1)) else none) else none) else none) else none
def afk:SS:=⟨46,86,[tI 1,tI 2,tP 3 19,tP 6 22],[(19,bV iJ),(22,.var fO (.cons vI (.cons vI (.cons vI (.cons (.val .str) (.cons vI (.cons .bF .nil)))))))],[]⟩
def afl:SS:=⟨46,86,[tP 6 22,(7,vB)],[(22,bV fO)],[]⟩
def afm:aX:=aE G [.cell 6 119,.tmp 7] 167 [.val iJ,vI,vI] [] 86 afl [] (.bH (u3 Ad))
theorem LB:hS afm:=
 cO ⟨[hD 1 33 []],[(3,afk)],[],[],[],[]⟩ hz aJ Tryz.call167 Tryz.func167
def Ev(a0:fP)(a1:gQ)(a2:Int):Option (Bool×dT):=
 aH (U:=fP×gQ×Int×Int×Int×Zj×Int) (Option.bind (α:=Bool) (if(decide (a1.2.2.1<(0:Int)))=true then(some true) else(some (decide (a2≤a1.2.2.1)))) fun v2=>if v2=true then(cw (some (false,0,0,0,[],0,([]:ZQ),()))) else(some (.bA (a0,a1,0,0,0,[],0)))) fun⟨b,a,_,_,_,_,_⟩=>if 0≤a.2.2.1 then(if a.2.2.1<(List.length b.2.1.2.2.1:Int) then(Option.bind (Ad b.1 (nth aO b.2.1.2.2.1 a.2.2.1).2.2.1 a.2.2.2.1) fun⟨c,d⟩=>some (c,d)) else none) else none
def afn:SS:=⟨33,73,[tP 3 19,tP 4 20,tP 6 22],[(19,bV mb),(20,bV aT),(22,.var fO (.cons vI (.cons vI (.cons vI (.cons (.val .str) (.cons vI (.cons .bF .nil)))))))],[]⟩
def afo:SS:=⟨33,73,[tP 6 22,(7,vB)],[(22,bV fO)],[]⟩
def afp:aX:=aE G [.cell 6 119,.tmp 7] 244 [.val mb,.val aT,vI] [] 73 afo [] (.bH (u3 Ev))
theorem Ui:hS afp:=
 cO ⟨[hD 1 16 [],hA 3 0],[(3,afn)],[],[],[],[]⟩ (hq LB hz) aJ Tryz.call244 Tryz.func244
def ua:Nat→ZC×Int×Int×fP→Zy:=aK fun anz ⟨k,j,i,l⟩=>if(decide (i<j))=true then(if 0≤i then(if i<(k.length:Int) then(aH (U:=Int×ZC×Int×Int×fP×AJ) (Option.bind (α:=Bool) (if(decide ((nth aO k i).2.2.1<(0:Int)))=true then(some true) else(some (decide ((List.length l.1.1.2.2.1:Int)≤(nth aO k i).2.2.1)))) fun v7=>if v7=true then(cw (cw (some false))) else(some (.bA (i,k,j,i,l,nth aO k i)))) fun⟨f,b,c,d,e,a⟩=>if(decide (a.2.2.2.1.2.2.1=(-1:Int)))=true then(anz (b,c,aZ (d+1),e)) else(Option.bind (Ev e a.2.2.2.1 f) fun⟨g,h⟩=>Option.bind (α:=Bool) (if(!g)=true then(some true) else(some (!decide (h.1=(3:Int))))) fun v9=>if v9=true then(cw (some false)) else(anz (b,c,aZ (d+1),e)))) else none) else none) else(some (.bA ()))
def LC(a0:fP):Zo:=
 aH (U:=fP) (Option.bind (α:=Bool) (if(decide ((List.length a0.2.1.2.2.1:Int)<(1:Int)))=true then(some true) else(some (decide ((3:Int)<(List.length a0.2.1.2.2.1:Int))))) fun v2=>if v2=true then(cw (some false)) else(some (.bA a0))) fun v1=>aH (U:=Unit) (ua (Int.toNat (List.length v1.2.1.2.2.1:Int)+1) (v1.2.1.2.2.1,(List.length v1.2.1.2.2.1:Int),0,v1)) fun _=>some true
def afq:SS:=⟨61,101,[tP 1 17],[(17,bV mb)],[]⟩
def afr:SS:=⟨61,101,[tP 1 17,tI 3,tP 4 20,(21,.val (.slice 96 aO)),tI 22,tI 23],[(17,bV mb),(20,bV aO)],[]⟩
def afs:SS:=⟨61,101,[],[],[]⟩
def aft:SS:=⟨61,101,[tP 1 17,(21,.val (.slice 96 aO)),tI 22,tI 23],[(17,bV mb)],[]⟩
def afu:SS:=⟨61,101,[(2,vB)],[],[]⟩
def afv:aX:=aE G [.tmp 2] 185 [.val mb] [] 101 afu [] (.bH (u1 LC))
theorem afw:hS afv:=
 cO ⟨[hD 1 18 [],hD 6 40 [],hA 9 0,hD 10 59 []],[(3,afq),(8,afr),(13,afs)],[],[(4,⟨aft,fun u4=>Int.toNat u4.2.1+1⟩)],[],[]⟩ (hq Ui hz) aJ Tryz.call185 Tryz.func185
def LD(a0:gQ):Zo:=
 Option.bind (α:=Bool) (if(decide (a0.2.2.1=(-1:Int)))=true then(if(decide ((0:Int)≤a0.2.2.2.2.1))=true then(some (decide (a0.2.2.2.2.1≤(1048576:Int)))) else(some false)) else(some false)) fun v1=>some v1
def afx:SS:=⟨16,56,[(2,vB)],[],[]⟩
def afy:aX:=aE G [.tmp 2] 245 [.val aT] [] 56 afx [] (.bH (u1 LD))
theorem X3:hS afy:=
 cO (hR [hD 1 2 []]) hz aJ Tryz.call245 Tryz.func245
def Pr(a0:dJ)(a1:dT)(a2:dT):Zo:=
 aH (U:=dJ×dT×dT) (if(!decide (a1.1=a2.1))=true then(cw (some false)) else(if(decide (a1.1=(4:Int)))=true then(Option.bind (BC a1.2.2.2.2.2.1 a2.2.2.2.2.2.1) fun y2=>cw (some y2)) else(Option.bind (α:=Bool) (if(!decide (a1.1=(1:Int)))=true then(some true) else(if(decide (a1.2.2.2.2.1=(-1:Int)))=true then(some true) else(some (decide (a2.2.2.2.2.1=(-1:Int)))))) fun v3=>if v3=true then(cw (some (decide (a1.2.2.2.2.1=a2.2.2.2.2.1)))) else(some (.bA (a0,a1,a2)))))) fun⟨b,a,c⟩=>if 0≤a.2.2.2.2.1 then(if a.2.2.2.2.1<(List.length b.1.2.1:Int) then(if 0≤c.2.2.2.2.1 then(if c.2.2.2.2.1<(List.length b.1.2.1:Int) then(some (decide ((nth aT b.1.2.1 a.2.2.2.2.1).2.2.2.1=(nth aT b.1.2.1 c.2.2.2.2.1).2.2.2.1))) else none) else none) else none) else none
def afz:SS:=⟨58,98,[tP 3 19,tP 4 20,tP 5 21],[(19,bV iJ),(20,bV fO),(21,bV fO)],[]⟩
def afA:SS:=⟨58,98,[(6,vB)],[],[]⟩
def afB:aX:=aE G [.tmp 6] 246 [.val iJ,.val fO,.val fO] [] 98 afA [] (.bH (u3 Pr))
theorem afC:hS afB:=
 cO ⟨[hA 4 0,hD 5 22 []],[(7,afz)],[],[],[],[]⟩ (hq JB hz) aJ Tryz.call246 Tryz.func246
def nS:Nat→Int×Int×fP×qN×Zz×List dT→Option (cH (fP×qN×List dT) Bool):=aK fun anz ⟨d,c,f,h,e,g⟩=>if(decide (c<d))=true then(if 0≤c then(if c<(e.length:Int) then(Option.bind (Ev f (nth aT e c) (List.length f.2.1.2.2.1:Int)) fun⟨a,b⟩=>Option.bind (α:=Bool) (if(!a)=true then(Option.bind (LD (nth aT e c)) fun y7=>some (!y7)) else(some false)) fun v8=>if v8=true then(cw (some false)) else(if a=true then(if(g.length+List.length [b])*72≤aG then(anz (d,aZ (c+1),f,h,e,g++[b])) else none) else(anz (d,aZ (c+1),f,h,e,g)))) else none) else none) else(some (.bA (f,h,g)))
def nj:Nat→Int×Int×qN×List dT→Zy:=aK fun rec14 ⟨b,a,d,c⟩=>if(decide (a<b))=true then(if 0≤a then(if a<(c.length:Int) then(Option.bind (α:=Bool) (if(decide ((nth fO c a).1=(1:Int)))=true then(some true) else(some (decide ((nth fO c a).1=(2:Int))))) fun v15=>Option.bind (α:=Bool) (if(decide (d.1=(2:Int)))=true then(some (!v15)) else(if(decide (d.1=(3:Int)))=true then(some (!v15)) else(some false))) fun v16=>if v16=true then(cw (some false)) else(rec14 (b,aZ (a+1),d,c))) else none) else none) else(some (.bA ()))
def Ps(a0:fP)(a1:qN):Zo:=
 aH (U:=fP×qN) (Option.bind (α:=Bool) (if(decide (a1.1<(1:Int)))=true then(some true) else(some (decide ((4:Int)<a1.1)))) fun v2=>if v2=true then(cw (some false)) else(some (.bA (a0,a1)))) fun⟨b,a⟩=>aH (U:=fP×qN×List dT) (nS (Int.toNat (List.length [a.2.1,a.2.2.1]:Int)+1) ((List.length [a.2.1,a.2.2.1]:Int),0,b,a,[a.2.1,a.2.2.1],([]:List dT))) fun⟨d,e,c⟩=>aH (U:=qN×List dT) (Option.bind (α:=Bool) (if(decide ((c.length:Int)=(0:Int)))=true then(some true) else(if(decide ((c.length:Int)=(2:Int)))=true then(if(0:Int)<(c.length:Int) then(if(1:Int)<(c.length:Int) then(Option.bind (Pr d.1 (nth fO c (0:Int)) (nth fO c (1:Int))) fun y10=>some (!y10)) else none) else none) else(some false))) fun v11=>if v11=true then(cw (some false)) else(some (.bA (e,c)))) fun⟨g,f⟩=>aH (U:=Unit) (nj (Int.toNat (f.length:Int)+1) ((f.length:Int),0,g,f)) fun _=>some true
def afD:SS:=⟨101,141,[tP 2 18,tP 3 19],[(18,bV mb),(19,bV aU)],[]⟩
def afE:SS:=⟨101,141,[tP 2 18,tP 3 19,(5,.own 118)],[(18,bV mb),(19,bV aU),(118,.row 119 72 fO)],[]⟩
def X4:List (Nat×dj):=[(19,bV aU),(118,.row 119 72 fO)]
def afF:SS:=⟨101,141,[tP 3 19,(5,.own 118)],X4,[]⟩
def afG:SS:=⟨101,141,[],[],[]⟩
def afH:SS:=⟨101,141,[tP 2 18,tP 3 19,(5,.own 117),(25,.own 41),tI 26,tI 27],[(18,bV mb),(19,bV aU),(41,.row 128 56 aT),(117,.row 119 72 fO)],[]⟩
def afI:SS:=⟨101,141,[tP 3 19,(74,.own 118),tI 75,tI 76],X4,[]⟩
def afJ:SS:=⟨101,141,[(4,vB)],[],[]⟩
def afK:aX:=aE G [.tmp 4] 186 [.val mb,.val aU] [] 141 afJ [] (.bH (u2 Ps))
theorem afL:hS afK:=
 cO ⟨[hD 1 20 [],hA 7 0,hD 8 47 [cA 1],hD 13 73 [cA 2],hD 18 12 [],hD 19 99 []],[(3,afD),(13,afE),(15,afF),(22,afG)],[],[(5,⟨afH,fun u4=>Int.toNat u4.1+1⟩),(16,⟨afI,fun IZ=>Int.toNat IZ.1+1⟩)],[],[]⟩ (hq Ui (hq X3 (hq afC hz))) aJ Tryz.call186 Tryz.func186
def Pt(a0:fP)(a1:dT)(a2:gQ):Zo:=
 Option.bind (LD a2) fun y1=>if y1=true then(Option.bind (α:=Bool) (if(decide (a1.2.1≤a2.2.2.2.2.1))=true then(some (decide (a2.2.2.2.2.1≤a1.2.2.1))) else(some false)) fun v2=>some v2) else(Option.bind (Ev a0 a2 (List.length a0.2.1.2.2.1:Int)) fun⟨a,b⟩=>Option.bind (α:=Bool) (if a=true then(if(decide (b.1=a1.1))=true then(if(decide (b.2.2.2.2.1=a1.2.2.2.2.1))=true then(Option.bind (BC b.2.2.2.2.2.1 a1.2.2.2.2.2.1) fun y4=>if y4=true then(if(decide (a1.2.1≤b.2.1))=true then(if(decide (b.2.1≤a1.2.2.1))=true then(if(decide (a1.2.1≤b.2.2.1))=true then(some (decide (b.2.2.1≤a1.2.2.1))) else(some false)) else(some false)) else(some false)) else(some false)) else(some false)) else(some false)) else(some false)) fun v5=>some v5)
def afM:SS:=⟨83,123,[(6,vB)],[],[]⟩
def afN:aX:=aE G [.tmp 6] 187 [.val mb,.val fO,.val aT] [] 123 afM [] (.bH (u3 Pt))
theorem afO:hS afN:=
 cO (hR [hA 1 0,hD 2 6 [],hA 3 1,hD 4 6 [cA 2]]) (hq X3 (hq Ui (hq JB hz))) aJ Tryz.call187 Tryz.func187
def Ae:Nat→Zg×Int×Int×Zu→Zy:=aK fun am3 ⟨c,b,a,d⟩=>if(decide (a<b))=true then(if 0≤a then(if a<(c.length:Int) then(if(aQ qr .bool (nth qr c a) d)=true then(cw (some false)) else(if d.length+1≤aG then(am3 (c,b,aZ (a+1),bC qr (nth qr c a) true d)) else none)) else none) else none) else(some (.bA ()))
def Uj(a0:Zg):Zo:=
 aH (U:=Unit) (Ae (Int.toNat (a0.length:Int)+1) (a0,(a0.length:Int),0,([]:Zu))) fun _=>some true
def afP:SS:=⟨21,61,[],[],[]⟩
def afQ:SS:=⟨21,61,[(3,.mp 24),(9,.val (.slice 8 qr)),tI 10,tI 11],[(24,.map qr .bool)],[]⟩
def afR:SS:=⟨21,61,[(2,vB)],[],[]⟩
def afS:aX:=aE G [.tmp 2] 188 [.val (.slice 8 qr)] [] 61 afR [] (.bH (u1 Uj))
theorem afT:hS afS:=
 cO ⟨[],[(9,afP)],[],[(3,⟨afQ,fun u2=>Int.toNat u2.2.1+1⟩)],[],[]⟩ hz aJ Tryz.call188 Tryz.func188
def nT:Nat→ZE×Int×Int×fP→Option (cH fP Bool):=aK fun anC ⟨c,b,a,d⟩=>if(decide (a<b))=true then(if 0≤a then(if a<(c.length:Int) then(Option.bind (Ps d (nth aU c a)) fun y7=>if(!y7)=true then(cw (some false)) else(anC (c,b,aZ (a+1),d))) else none) else none) else(some (.bA d))
def kN:Nat→Int×ZG×Int×Int×fP×Zg→Option (cH Zg Bool):=aK fun rec12 ⟨g,e,d,c,f,h⟩=>if(decide (c<d))=true then(if 0≤c then(if c<(e.length:Int) then(Option.bind (Ad f.1 g (nth bJ e c).2.1) fun⟨a,b⟩=>Option.bind (α:=Bool) (if(!a)=true then(some true) else(if(decide ((nth bJ e c).2.1=(0:Int)))=true then(some true) else(Option.bind (Pt f b (nth bJ e c).2.2.1) fun y14=>some (!y14)))) fun v15=>if v15=true then(cw (some false)) else(if(h.length+List.length [(nth bJ e c).2.1])*8≤aG then(rec12 (g,e,d,aZ (c+1),f,h++[(nth bJ e c).2.1])) else none)) else none) else none) else(some (.bA h))
def LF(a0:fP):Zo:=
 aH (U:=fP) (Option.bind (α:=Bool) (Option.bind (LC a0) fun y2=>if(!y2)=true then(some true) else(some (decide ((8:Int)<(List.length a0.2.1.2.2.2.1:Int))))) fun v3=>if v3=true then(cw (some false)) else(some (.bA a0))) fun v1=>aH (U:=fP) (nT (Int.toNat (List.length v1.2.1.2.2.2.1:Int)+1) (v1.2.1.2.2.2.1,(List.length v1.2.1.2.2.2.1:Int),0,v1)) fun v4=>aH (U:=Int×fP) (Option.bind (α:=Bool) (if(decide (v4.2.1.2.1<(0:Int)))=true then(some true) else(if(decide ((List.length v4.1.1.2.2.1:Int)≤v4.2.1.2.1))=true then(some true) else(if 0≤v4.2.1.2.1 then(if v4.2.1.2.1<(List.length v4.1.1.2.2.1:Int) then(some (!decide ((List.length v4.2.1.2.2.2.2.1:Int)=(aZ ((List.length (nth bR v4.1.1.2.2.1 v4.2.1.2.1).2.2.2.2.1:Int) -(1:Int)))))) else none) else none))) fun v9=>if v9=true then(cw (some false)) else(some (.bA (v4.2.1.2.1,v4)))) fun⟨b,a⟩=>aH (U:=Zg) (kN (Int.toNat (List.length a.2.1.2.2.2.2.1:Int)+1) (b,a.2.1.2.2.2.2.1,(List.length a.2.1.2.2.2.2.1:Int),0,a,([]:Zg))) fun v10=>Option.bind (Uj v10) fun y16=>some y16
def X6:SS:=⟨105,145,[tP 1 17],[(17,bV mb)],[]⟩
def afU:SS:=⟨105,145,[tP 1 17,tI 5],[(17,bV mb)],[]⟩
def afV:SS:=⟨105,145,[(6,.own 122)],[(122,.row 3 8 qr)],[]⟩
def afW:SS:=⟨105,145,[tP 1 17,(23,.val (.slice 120 aU)),tI 24,tI 25],[(17,bV mb)],[]⟩
def afX:SS:=⟨105,145,[tP 1 17,tI 5,(6,.own 121),(67,.val (.slice 80 bJ)),tI 68,tI 69],[(17,bV mb),(121,.row 3 8 qr)],[]⟩
def afY:SS:=⟨105,145,[(2,vB)],[],[]⟩
def afZ:aX:=aE G [.tmp 2] 130 [.val mb] [] 145 afY [] (.bH (u1 LF))
theorem af5:hS afZ:=
 cO ⟨[hD 1 20 [cA 0],hA 6 1,hD 10 64 [],hA 16 2,hD 17 96 [cA 3],hA 21 4],[(3,X6),(9,X6),(12,afU),(21,afV)],[],[(4,⟨afW,fun u5=>Int.toNat u5.2.1+1⟩),(14,⟨afX,fun LO=>Int.toNat LO.2.2.1+1⟩)],[],[]⟩ (hq afw (hq afL (hq LB (hq afO (hq afT hz))))) aJ Tryz.call130 Tryz.func130
def Af(a0:dD)(a1:dJ):Zo:=
 Option.bind (LF (a1,a0,())) fun y1=>some y1
def af6:SS:=⟨8,48,[(3,vB)],[],[]⟩
def Pu:aX:=aE G [.tmp 3] 129 [.val bZ,.cb iJ] [] 48 af6 [] (.bH (u2 Af))
theorem Pv:hS Pu:=
 cO (hR [hA 1 0]) (hq af5 hz) aJ Tryz.call129 Tryz.func129
def qF(a0:dD)(a1:dJ):Sv:=
 Option.bind (Af a0 a1) fun y1=>some (!y1,a1)
def Ss:List (Nat×dj):=[(0,.var (.aS .func) (.func 129 .nil (.cons (.cb iJ) .nil)))]
def af7:SS:=⟨8,48,[(3,vB)],Ss,[]⟩
def Pw:aX:=aE G [.tmp 3] 194 [.val bZ,pP 0] Ss 48 af7 [0] (.bH (u2 qF))
theorem Px:hS Pw:=
 cO (hR [hA 1 0]) (hq Pv hz) aJ Tryz.call194 Tryz.func194
def Ew:Nat→Zq×Int×C1→Option (cH dJ C1):=aK fun am3 ⟨e,d,c,f⟩=>if(decide (c<d))=true then(if 0≤c then(if c<(e.length:Int) then(Option.bind (qF (nth bZ e c) f) fun⟨a,b⟩=>if a=true then(cw (some (c,b))) else(am3 (e,d,aZ (c+1),b))) else none) else none) else(some (.bA f))
def Ag(a0:Zq)(a1:dJ):Option C1:=
 aH (U:=dJ) (Ew (Int.toNat (a0.length:Int)+1) (a0,(a0.length:Int),0,a1)) fun v1=>some ((-1:Int),v1)
def af8:SS:=⟨19,59,[],Ss,[]⟩
def af9:SS:=⟨19,59,[(0,.val (.slice 96 bZ)),(1,.func 194 .nil (.cons (pP 0) .nil)),tI 7,tI 8],Ss,[]⟩
def aga:SS:=⟨19,59,[tI 4],Ss,[]⟩
def Py:aX:=aE G [.tmp 4] 249 [.val (.slice 96 bZ),.func 194 .nil (.cons (pP 0) .nil)] Ss 59 aga [0] (.bH (u2 Ag))
theorem Pz:hS Py:=
 cO ⟨[hE 4 [cB 0 [(0,0)] []]],[(7,af8)],[],[(2,⟨af9,fun u2=>Int.toNat u2.2.1+1⟩)],[],[]⟩ (hq Px hz) aJ Tryz.call249 Tryz.func249
def Ah(a0:Zq)(a1:dJ):Sv:=
 Option.bind (Ag a0 a1) fun⟨a,b⟩=>some (decide ((0:Int)≤a),b)
def agb:SS:=⟨9,49,[(4,vB)],Ss,[]⟩
def PA:aX:=aE G [.tmp 4] 193 [.val (.slice 96 bZ),.func 194 .nil (.cons (pP 0) .nil)] Ss 49 agb [0] (.bH (u2 Ah))
theorem PB:hS PA:=
 cO (hR [hE 1 [cB 0 [(0,0)] []]]) (hq Pz hz) aJ Tryz.call193 Tryz.func193
def ub(a0:Zq)(a1:dJ):Zo:=
 Option.bind (Ah a0 a1) fun⟨a,_⟩=>some (!a)
def PC:aX:=aE G [.tmp 4] 135 [.val (.slice 96 bZ),.func 129 .nil (.cons (.cb iJ) .nil)] [] 49 Lz [] (.bH (u2 ub))
theorem PD:hS PC:=
 cO (hR [hE 1 [cB 0 [(0,19)] []]]) (hq PB hz) aJ Tryz.call135 Tryz.func135
def nU:Nat→List pj×Int×Int×dJ×oi→Option (cH oi Bool):=aK fun am3 ⟨d,c,b,e,f⟩=>if(decide (b<c))=true then(if 0≤b then(if b<(d.length:Int) then(Option.bind (Ad e (nth fg d b).2.2.1 (nth fg d b).2.2.2.1) fun⟨a,_⟩=>if(!a)=true then(cw (some false)) else(am3 (d,c,aZ (b+1),e,f))) else none) else none) else(some (.bA f))
def LG(a0:dJ)(a1:oi):Zo:=
 aH (U:=oi) (nU (Int.toNat (List.length a1.2.1:Int)+1) (a1.2.1,(List.length a1.2.1:Int),0,a0,a1)) fun v1=>Option.bind (α:=Bool) (if(decide ((0:Int)≤v1.2.2.1))=true then(some (decide (v1.2.2.1≤(64:Int)))) else(some false)) fun v5=>some v5
def agc:SS:=⟨36,76,[tP 3 19],[(19,bV dY)],[]⟩
def agd:SS:=⟨36,76,[tP 2 18,tP 3 19,(10,.val (.slice 48 fg)),tI 11,tI 12],[(18,bV iJ),(19,bV dY)],[]⟩
def age:SS:=⟨36,76,[(4,vB)],[],[]⟩
def agf:aX:=aE G [.tmp 4] 137 [.val iJ,.val dY] [] 76 age [] (.bH (u2 LG))
theorem agh:hS agf:=
 cO ⟨[hA 4 0,hD 8 4 []],[(8,agc)],[],[(2,⟨agd,fun u2=>Int.toNat u2.2.1+1⟩)],[],[]⟩ (hq LB hz) aJ Tryz.call137 Tryz.func137
def qG(a0:oi)(a1:dJ):Sv:=
 Option.bind (LG a1 a0) fun y1=>some (!y1,a1)
def Su:List (Nat×dj):=[(0,.var (.aS .func) (.fE 137 iJ))]
def agi:SS:=⟨8,48,[(3,vB)],Su,[]⟩
def PE:aX:=aE G [.tmp 3] 195 [.val dY,pP 0] Su 48 agi [0] (.bH (u2 qG))
theorem PG:hS PE:=
 cO (hR [hA 1 0]) (hq agh hz) aJ Tryz.call195 Tryz.func195
def Ex:Nat→ZI×Int×C1→Option (cH dJ C1):=aK fun am3 ⟨e,d,c,f⟩=>if(decide (c<d))=true then(if 0≤c then(if c<(e.length:Int) then(Option.bind (qG (nth dY e c) f) fun⟨a,b⟩=>if a=true then(cw (some (c,b))) else(am3 (e,d,aZ (c+1),b))) else none) else none) else(some (.bA f))
def Ai(a0:ZI)(a1:dJ):Option C1:=
 aH (U:=dJ) (Ex (Int.toNat (a0.length:Int)+1) (a0,(a0.length:Int),0,a1)) fun v1=>some ((-1:Int),v1)
def agj:SS:=⟨19,59,[],Su,[]⟩
def agk:SS:=⟨19,59,[(0,.val (.slice 48 dY)),(1,.func 195 .nil (.cons (pP 0) .nil)),tI 7,tI 8],Su,[]⟩
def agl:SS:=⟨19,59,[tI 4],Su,[]⟩
def PH:aX:=aE G [.tmp 4] 243 [.val (.slice 48 dY),.func 195 .nil (.cons (pP 0) .nil)] Su 59 agl [0] (.bH (u2 Ai))
theorem PI:hS PH:=
 cO ⟨[hE 4 [cB 0 [(0,0)] []]],[(7,agj)],[],[(2,⟨agk,fun u2=>Int.toNat u2.2.1+1⟩)],[],[]⟩ (hq PG hz) aJ Tryz.call243 Tryz.func243
def Aj(a0:ZI)(a1:dJ):Sv:=
 Option.bind (Ai a0 a1) fun⟨a,b⟩=>some (decide ((0:Int)≤a),b)
def agm:SS:=⟨9,49,[(4,vB)],Su,[]⟩
def PJ:aX:=aE G [.tmp 4] 183 [.val (.slice 48 dY),.func 195 .nil (.cons (pP 0) .nil)] Su 49 agm [0] (.bH (u2 Aj))
theorem PK:hS PJ:=
 cO (hR [hE 1 [cB 0 [(0,0)] []]]) (hq PI hz) aJ Tryz.call183 Tryz.func183
def uc(a0:ZI)(a1:dJ):Zo:=
 Option.bind (Aj a0 a1) fun⟨a,_⟩=>some (!a)
def PN:aX:=aE G [.tmp 4] 136 [.val (.slice 48 dY),.fE 137 iJ] [] 49 Lz [] (.bH (u2 uc))
theorem PO:hS PN:=
 cO (hR [hE 1 [cB 0 [(0,19)] []]]) (hq PK hz) aJ Tryz.call136 Tryz.func136
def LJ(a0:cM):ZW:=
 Option.bind (O5 (a0,())) fun y1=>if(!y1)=true then(some (2:Int)) else(Option.bind (α:=Bool) (Option.bind (t7 a0.2.1 (a0,())) fun y2=>if(!y2)=true then(some true) else(Option.bind (t9 a0.2.2.1 (a0,())) fun y3=>if(!y3)=true then(some true) else(Option.bind (ub a0.2.2.2.1 (a0,())) fun y4=>if(!y4)=true then(some true) else(Option.bind (uc a0.2.2.2.2.2.1 (a0,())) fun y5=>some (!y5))))) fun v6=>if v6=true then(some (120:Int)) else(some (0:Int)))
def agn:SS:=⟨40,80,[tI 2],[],[]⟩
def ago:aX:=aE G [.tmp 2] 100 [.val iI] [] 80 agn [] (.bH (u1 LJ))
theorem X7:hS ago:=
 cO (hR [hA 2 0,hD 5 39 [cA 1,cA 2,cA 3,cA 4]]) (hq aeI (hq Pd (hq Pq (hq PD (hq PO hz))))) aJ Tryz.call100 Tryz.func100
def PQ(a0:Int)(a1:Int):Zo:=
 if 0≤a1 then(some (decide ((iv .and .u64 (Int.fdiv a0 (2^(min (Int.toNat a1) 64))) (1:Int))=(1:Int)))) else none
def agp:SS:=⟨10,50,[(4,vB)],[],[]⟩
def agq:aX:=aE G [.tmp 4] 250 [.val (.int .u64),vI] [] 50 agp [] (.bH (u2 PQ))
theorem agr:hS agq:=
 cO (hR []) hz aJ Tryz.call250 Tryz.func250
def nV:Nat→Int×Int×Zg×Int×Int×wI→Option (cH (Int×Int×wI) Bool):=aK fun am3 ⟨d,e,c,b,a,f⟩=>if(decide (a<b))=true then(if 0≤a then(if a<(c.length:Int) then(Option.bind (α:=Bool) (if(decide ((nth qr c a)<(0:Int)))=true then(some true) else(if(decide (d≤(nth qr c a)))=true then(some true) else(Option.bind (PQ e (nth qr c a)) fun y4=>some y4))) fun v5=>if v5=true then(cw (some false)) else(if 0≤(nth qr c a) then(am3 (d,iv .or .u64 e (IntKind.u64.wrap ((1:Int)*2^(min (Int.toNat (nth qr c a)) 64))),c,b,aZ (a+1),f)) else none)) else none) else none) else(some (.bA (d,e,f)))
def PR(a0:wI)(a1:Int):Zo:=
 aH (U:=Int×Int×wI) (nV (Int.toNat (List.length a0.2.2.1:Int)+1) (a1,0,a0.2.2.1,(List.length a0.2.2.1:Int),0,a0)) fun⟨c,a,b⟩=>Option.bind (α:=Bool) (if(!decide (a=(0:Int)))=true then(if(decide ((0:Int)≤b.2.2.2.1))=true then(if(decide (b.2.2.2.1<c))=true then(Option.bind (PQ a b.2.2.2.1) fun y6=>some (!y6)) else(some false)) else(some false)) else(some false)) fun v7=>some v7
def ags:SS:=⟨52,92,[tI 1,tP 2 18,(5,.val (.int .u64))],[(18,bV fH)],[]⟩
def agt:SS:=⟨52,92,[tI 1,tP 2 18,(5,.val (.int .u64)),(9,.val (.slice 8 qr)),tI 10,tI 11],[(18,bV fH)],[]⟩
def agu:SS:=⟨52,92,[(4,vB)],[],[]⟩
def agv:aX:=aE G [.tmp 4] 196 [.val fH,vI] [] 92 agu [] (.bH (u2 PR))
theorem agw:hS agv:=
 cO ⟨[hD 5 26 [cA 0],hD 9 4 [cA 0]],[(9,ags)],[],[(3,⟨agt,fun u2=>Int.toNat u2.2.2.2.1+1⟩)],[],[]⟩ (hq agr hz) aJ Tryz.call196 Tryz.func196
def qH:Nat→EG×Int×Int×lJ→Option (cH Unit Int):=aK fun anz ⟨c,b,a,d⟩=>if(decide (a<b))=true then(if 0≤a then(if a<(c.length:Int) then(Option.bind (PR (nth fH c a) (List.length d.2.2.2.2.1:Int)) fun y6=>if(!y6)=true then(cw (some (130:Int))) else(anz (c,b,aZ (a+1),d))) else none) else none) else(some (.bA ()))
def PT(a0:lJ):ZW:=
 aH (U:=lJ) (Option.bind (α:=Bool) (if(decide ((List.length a0.2.2.2.2.1:Int)<(1:Int)))=true then(some true) else(if(decide ((12:Int)<(List.length a0.2.2.2.2.1:Int)))=true then(some true) else(some (decide ((12:Int)<(List.length a0.2.2.2.2.2.1:Int)))))) fun v2=>if v2=true then(cw (some (130:Int))) else(some (.bA a0))) fun v1=>aH (U:=Unit) (qH (Int.toNat (List.length v1.2.2.2.2.2.1:Int)+1) (v1.2.2.2.2.2.1,(List.length v1.2.2.2.2.2.1:Int),0,v1)) fun _=>some (0:Int)
def agx:SS:=⟨35,75,[tP 1 17],[(17,bV bR)],[]⟩
def agy:SS:=⟨35,75,[],[],[]⟩
def agz:SS:=⟨35,75,[tP 1 17,(22,.val (.slice 72 fH)),tI 23,tI 24],[(17,bV bR)],[]⟩
def agA:SS:=⟨35,75,[tI 2],[],[]⟩
def agB:aX:=aE G [.tmp 2] 138 [.val bR] [] 75 agA [] (.bH (u1 PT))
theorem agC:hS agB:=
 cO ⟨[hD 1 20 [],hA 6 0],[(3,agx),(9,agy)],[],[(4,⟨agz,fun u4=>Int.toNat u4.2.1+1⟩)],[],[]⟩ (hq agw hz) aJ Tryz.call138 Tryz.func138
def Ak:Nat→ZK×wJ→Option (cH Unit Int):=aK fun am3 ⟨c,b,a⟩=>if(decide (a<b))=true then(if 0≤a then(if a<(c.length:Int) then(Option.bind (PT (nth bR c a)) fun y4=>if(!decide (y4=(0:Int)))=true then(cw (some y4)) else(am3 (c,b,aZ (a+1)))) else none) else none) else(some (.bA ()))
def Uk(a0:cM):ZW:=
 aH (U:=Unit) (Ak (Int.toNat (List.length a0.2.2.1:Int)+1) (a0.2.2.1,(List.length a0.2.2.1:Int),0)) fun _=>some (0:Int)
def agD:SS:=⟨19,59,[],[],[]⟩
def agE:SS:=⟨19,59,[(7,.val (.slice 96 bR)),tI 8,tI 9],[],[]⟩
def agF:SS:=⟨19,59,[tI 2],[],[]⟩
def agG:aX:=aE G [.tmp 2] 101 [.val iI] [] 59 agF [] (.bH (u1 Uk))
theorem agH:hS agG:=
 cO ⟨[hA 4 0],[(8,agD)],[],[(2,⟨agE,fun u2=>Int.toNat u2.2.1+1⟩)],[],[]⟩ (hq agC hz) aJ Tryz.call101 Tryz.func101
def qI(a0:Int)(a1:Int)(a2:ZY):Option (Bool×ZY):=
 Option.bind (α:=Bool) (if(decide ((0:Int)≤a1))=true then(some (decide (a1<a0))) else(some false)) fun v1=>some (v1,a2)
def X8:List (Nat×dj):=[(0,.pmap qr (.map qr .bool) 0)]
def agI:SS:=⟨13,53,[(4,vB)],X8,[]⟩
def PU:aX:=aE G [.tmp 4] 199 [.cons vI (.cons (.mp 0) .nil),vI] X8 53 agI [0] (.bH (u3 qI))
theorem PW:hS PU:=
 cO (hR [hD 1 4 []]) hz aJ Tryz.call199 Tryz.func199
def kO:Nat→Zq×Int×Int×ZC×Int×Int×Int×dD×ZY→Option (cH (Zq×Int×Int×Int×ZY) (cH (Int×ZY) (Int×ef))):=aK fun rec8 ⟨i,j,k,e,d,c,f,h,g⟩=>if(decide (c<d))=true then(if 0≤c then(if c<(e.length:Int) then(Option.bind (qI f (nth aO e c).2.2.1 g) fun⟨a,b⟩=>if(!a)=true then(cw (cw (some (140,0,(none:Option ZY),())))) else(if cC qr h.2.1 b=true then(if bD qr h.2.1 h.2.1=true then(if List.length (bE (aQ qr (.map qr .bool) h.2.1 b))+1≤aG then(rec8 (i,j,k,e,d,aZ (c+1),f,h,bC qr h.2.1 (some (bC qr (nth aO e c).2.2.1 true (bE (aQ qr (.map qr .bool) h.2.1 b)))) b)) else none) else none) else none)) else none) else none) else(some (.bA (i,j,k,f,g)))
def nW:Nat→Zq×Int×Int×Int×ZY→Option (cH (Int×ZY) (Int×ef)):=aK fun am3 ⟨p,o,n,q,r⟩=>if(decide (n<o))=true then(aH (U:=Zq×Int×Int×Int×ZY) (if 0≤n then(if n<(p.length:Int) then(Option.bind (qI q (nth bZ p n).2.1 r) fun⟨a,b⟩=>if(!a)=true then(cw (cw (some (140,0,(none:Option ZY),())))) else(aH (U:=Zq×Int×Int×Int×dD×ZY) (if(!(cC qr (nth bZ p n).2.1 b))=true then(if cC qr (nth bZ p n).2.1 b=false then(if bD qr (nth bZ p n).2.1 (nth bZ p n).2.1=true then(if b.length+1≤aG then(some (.bA (p,o,n,q,nth bZ p n,bC qr (nth bZ p n).2.1 (some ([]:Zu)) (bC qr (nth bZ p n).2.1 (Ty.aD (.map qr .bool)) b)))) else none) else none) else none) else(some (.bA (p,o,n,q,nth bZ p n,b)))) fun⟨d,e,f,g,c,h⟩=>kO (Int.toNat (List.length c.2.2.1:Int)+1) (d,e,f,c.2.2.1,(List.length c.2.2.1:Int),0,g,c,h))) else none) else none) fun⟨i,j,k,l,m⟩=>am3 (i,j,aZ (k+1),l,m)) else(some (.bA (q,r)))
def LK(a0:cM):Option (Int×ef):=
 aH (U:=Int×ZY) (nW (Int.toNat (List.length a0.2.2.2.1:Int)+1) (a0.2.2.2.1,(List.length a0.2.2.2.1:Int),0,(List.length a0.2.2.1:Int),([]:ZY))) fun⟨a,b⟩=>some (0,a,some b,())
def X9:List (Nat×dj):=[(18,.var oh (.cons vI (.cons (.mp 27) .nil))),(21,bV bZ),(27,.pmap qr (.map qr .bool) 0)]
def agJ:SS:=⟨60,100,[tP 2 18,tP 5 21,(14,.val (.slice 96 bZ)),tI 15,tI 16],X9,[]⟩
def Ya:List (Nat×dj):=[(18,.var oh (.cons vI (.cons (.mp 27) .nil))),(27,.pmap qr (.map qr .bool) 0)]
def Yb:SS:=⟨60,100,[tP 2 18,(14,.val (.slice 96 bZ)),tI 15,tI 16],Ya,[]⟩
def agK:SS:=⟨60,100,[tP 2 18],Ya,[]⟩
def agL:SS:=⟨60,100,[tP 2 18,tP 5 21,(14,.val (.slice 96 bZ)),tI 15,tI 16,(38,.val (.slice 96 aO)),tI 39,tI 40],X9,[]⟩
def agM:SS:=⟨60,100,[tP 2 18,tI 3],[(18,bV oh)],[]⟩
def agN:aX:=aE G [.cell 2 260,.tmp 3] 142 [.val iI] [] 100 agM [] (.bH (u1 LK))
theorem agO:hS agN:=
 cO ⟨[(2,⟨[.Kc 27 0],[],[],none,[],[],[]⟩),hE 5 [cB 0 [(0,27)] []],(8,⟨[],[],[],none,[],[.map 0 27 0 (.c 5 [.cV 1])],[.lT 27]⟩),hE 12 [cB 0 [(0,27)] []],(14,⟨[],[],[],none,[],[.map 1 27 76 (.c 5 [.cV 1])],[.lT 27]⟩),(17,⟨[.IV 27],[],[],none,[],[],[]⟩)],[(9,agJ),(16,Yb),(17,agK)],[],[(3,⟨Yb,fun u2=>Int.toNat u2.2.1+1⟩),(10,⟨agL,fun u7=>Int.toNat u7.2.2.2.2.1+1⟩)],[],[]⟩ (hq PW hz) aJ Tryz.call142 Tryz.func142
def Al(a0:ef):Option ef:=
 some a0
def agP:SS:=⟨4,44,[(2,.func 201 .nil (.cons (pP 17) .nil))],[(17,bV oh)],[]⟩
def PX:aX:=aE G [.tmp 2] 144 [.val oh] [] 44 agP [17] (.bH (u1 Al))
theorem PY:hS PX:=
 cO (hR []) hz aJ Tryz.call144 Tryz.func144
def lD:Nat→Int×Int×Int×ef×qS×Zu→Option (cH (Int×Int×ef×qS) (cH qS qS)):=aK fun anC ⟨f,b,c,d,e,a⟩=>if List.isEmpty a=true then(some (.bA (b,c,d,e))) else th a fun x7 l8=>if 0≤x7.1 then(if x7.1<(e.length:Int) then(if 0≤x7.1 then(if Int.toNat x7.1=(Int.toNat x7.1) then(if(List.length (List.getD e (Int.toNat x7.1) [])+List.length [f])*8≤aG then(if 0≤x7.1 then(if Int.toNat x7.1=(Int.toNat x7.1) then(anC (f,b,c,d,List.set e (Int.toNat x7.1) ((List.getD e (Int.toNat x7.1) [])++[f]),l8)) else none) else none) else none) else none) else none) else none) else none
def lE:Nat→Int×Int×ef×qS→Option (cH qS qS):=aK fun am3 ⟨f,e,g,h⟩=>if(decide (e<f))=true then(aH (U:=Int×Int×ef×qS) (lD (List.length (bE (aQ qr (.map qr .bool) e (bE g.2.1)))+1) (e,f,e,g,h,bE (aQ qr (.map qr .bool) e (bE g.2.1)))) fun⟨a,b,c,d⟩=>am3 (a,aZ (b+1),c,d)) else(some (.bA h))
def Ey(a0:ef):Option qS:=
 if 0≤a0.1 then(if a0.1≤a0.1 then(if a0.1*(24:Int)≤(aG:Int) then(aH (U:=qS) (lE (Int.toNat a0.1+1) (a0.1,0,a0,List.replicate (Int.toNat a0.1) [])) fun v1=>some v1) else none) else none) else none
def Yd:SS:=⟨35,75,[tP 1 17,(3,.own 24),tI 10,tI 11],[(17,bV oh),(24,.dh 30 24 (.slice 8 qr) 3)],[]⟩
def agQ:SS:=⟨35,75,[(3,.own 24)],[(24,.dh 30 24 (.slice 8 qr) 3)],[]⟩
def agR:SS:=⟨35,75,[tP 1 17,(3,.own 24),tI 4,tI 10,tI 11,tP 18 34],[(17,bV oh),(24,.dh 30 24 (.slice 8 qr) 3),(34,.ko qr .bool)],[]⟩
def agS:SS:=⟨35,75,[(2,.val (.slice 24 (.slice 8 qr)))],[],[]⟩
def Ye:aX:=aE G [.tmp 2] 202 [.val oh] [] 75 agS [] (.bH (u1 Ey))
theorem agT:hS Ye:=
 cO ⟨[(8,⟨[],[],[],none,[],[.row 24 51 (.t 5)],[.qd 24]⟩),(10,⟨[.IV 24],[],[],none,[],[],[]⟩)],[(9,Yd),(10,agQ)],[],[(3,⟨Yd,fun u2=>Int.toNat u2.1+1⟩),(6,⟨agR,fun u5=>List.length u5.2.2.2.2.2+1⟩)],[],[]⟩ hz aJ Tryz.call202 Tryz.func202
def qJ(a0:Zg):Option (Int×Zg):=
 some ((a0.length:Int),a0)
def agU:SS:=⟨5,45,[tI 2],[(0,.row 3 8 qr)],[]⟩
def PZ:aX:=aE G [.tmp 2] 204 [.own 0] [(0,.row 3 8 qr)] 45 agU [0] (.bH (u1 qJ))
theorem GC:hS PZ:=
 cO (hR []) hz aJ Tryz.call204 Tryz.func204
def lF(a0:Int)(a1:Int)(a2:Zg):Option (Bool×Zg):=
 if 0≤a0 then(if a0<(a2.length:Int) then(if 0≤a1 then(if a1<(a2.length:Int) then(some (decide ((nth qr a2 a0)<(nth qr a2 a1)),a2)) else none) else none) else none) else none
def agV:SS:=⟨16,56,[(6,vB)],[(0,.row 3 8 qr)],[]⟩
def P0:aX:=aE G [.tmp 6] 280 [.own 0,vI,vI] [(0,.row 3 8 qr)] 56 agV [0] (.bH (u3 lF))
theorem GD:hS P0:=
 cO (hR []) hz aJ Tryz.call280 Tryz.func280
def j5(a0:Int)(a1:Int)(a2:Zg):Option Zg:=
 if 0≤a1 then(if a1<(a2.length:Int) then(if 0≤a0 then(if a0<(a2.length:Int) then(if 0≤a0 then(if a0<(a2.length:Int) then(if 0≤a1 then(if a1<(List.length (List.set a2 (Int.toNat a0) (nth qr a2 a1)):Int) then(some (List.set (List.set a2 (Int.toNat a0) (nth qr a2 a1)) (Int.toNat a1) (nth qr a2 a0))) else none) else none) else none) else none) else none) else none) else none) else none
def agW:SS:=⟨20,60,[],[(0,.row 3 8 qr)],[]⟩
def P1:aX:=aE G [] 284 [.own 0,vI,vI] [(0,.row 3 8 qr)] 60 agW [0] (.bH (u3 j5))
theorem Am:hS P1:=
 cO (hR []) hz aJ Tryz.call284 Tryz.func284
def ph:Nat→Int×Zg→Option (cH Zg Zg):=aK fun am3 ⟨c,d⟩=>if(decide ((aZ (Int.tdiv (aZ (c -(1:Int))) (2:Int)))=c))=true then(some (.bA d)) else(Option.bind (lF c (aZ (Int.tdiv (aZ (c -(1:Int))) (2:Int))) d) fun⟨a,b⟩=>if(!a)=true then(some (.bA b)) else(Option.bind (j5 (aZ (Int.tdiv (aZ (c -(1:Int))) (2:Int))) c b) fun y5=>am3 (aZ (Int.tdiv (aZ (c -(1:Int))) (2:Int)),y5)))
def Ao(a0:Int)(a1:Zg):Option Zg:=
 aH (U:=Zg) (ph eP (a0,a1)) fun v1=>some v1
def Ic:List (Nat×dj):=[(0,.var rU (.cons (.own 1) .nil)),(1,.row 3 8 qr)]
def Yf:SS:=⟨23,63,[],Ic,[]⟩
def agX:SS:=⟨23,63,[(0,.iface 333 (pP 0)),tI 1],Ic,[]⟩
def P2:aX:=aE G [] 251 [.iface 333 (pP 0),vI] Ic 63 Yf [0,1] (.bH (u2 Ao))
theorem P3:hS P2:=
 cO ⟨[hE 1 [cB 0 [(0,1)] []],hE 2 [cB 1 [(0,1)] []]],[],[(0,Yf)],[(0,⟨agX,fun _=>eP⟩)],[],[]⟩ (hq GD (hq Am hz)) aJ Tryz.call251 Tryz.func251
def Ap(a0:Int)(a1:Zg):Option Zg:=
 if(a1.length+List.length [a0])*8≤aG then(some (a1++[a0])) else none
def agY:SS:=⟨22,62,[],[(0,.var rU (.cons (.own 35) .nil)),(35,.row 3 8 qr)],[]⟩
def P4:aX:=aE G [] 282 [pP 0,.iface 3 vI] Ic 62 agY [0,35] (.bH (u2 Ap))
theorem P5:hS P4:=
 cO (hR []) hz aJ Tryz.call282 Tryz.func282
def qK(a0:Int)(a1:Zg):Option Zg:=
 Option.bind (Ap a0 a1) fun y1=>Option.bind (qJ y1) fun⟨a,b⟩=>Option.bind (Ao (aZ (a -(1:Int))) b) fun y3=>some y3
def agZ:SS:=⟨12,52,[],[(0,.var rU (.cons (.own 22) .nil)),(22,.row 3 8 qr)],[]⟩
def GF:aX:=aE G [] 203 [.iface 333 (pP 0),.iface 3 vI] Ic 52 agZ [0,22] (.bH (u2 qK))
theorem P6:hS GF:=
 cO (hR [hE 0 [cB 0 [(0,0),(1,1)] [(35,22)]],hE 1 [cB 1 [(0,22)] [],cB 2 [(0,0),(1,22)] []]]) (hq P5 (hq GC (hq P3 hz))) aJ Tryz.call203 Tryz.func203
def CE(a0:Zg):ZW:=
 some (a0.length:Int)
def ag0:SS:=⟨5,45,[tI 2],[],[]⟩
def Yg:aX:=aE G [.tmp 2] 204 [.val (.slice 8 qr)] [] 45 ag0 [] (.bH (u1 CE))
theorem ag1:hS Yg:=
 cO (hR []) hz aJ Tryz.call204 Tryz.func204
end Go.Proofs.YtpmlkhjpbjnagaaGreat
