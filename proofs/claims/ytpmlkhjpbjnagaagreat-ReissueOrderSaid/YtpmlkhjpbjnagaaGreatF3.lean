/- part -/
import Derived.Test.YtpmlkhjpbjnagaaGreatF2
noncomputable section
namespace Go.Proofs.YtpmlkhjpbjnagaaGreat
open Go.Ax
def PJ:Nat→ZC×ZC×BX→Zs:=aL fun al4 ⟨c,d,b,a⟩=>if decide (a<b) then(if 0≤a then(if a<(c.length:Int) then(if 0≤a then(if a<(d.length:Int) then(if !bl bu (nth bu c a) (nth bu d a) then(bX (some false)) else(al4 (c,d,b,bp (a+1)))) else none) else none) else none) else none) else(some (.brk ()))
def f212(a0:ZC)(a1:ZC):Zl:=
 if !decide ((a0.length:Int)=(a1.length:Int)) then(some false) else(aI (U:=Unit) (PJ (Int.toNat (a0.length:Int)+1) (a0,a1,(a0.length:Int),0)) fun _v1=>some true)
def adS:SS:=⟨26,66,[(0,.val (.slice 80 bu)),(1,.val (.slice 80 bu)),tI 12,tI 13],[],[]⟩
def adT:aZ:=aG G [.tmp 4] 212 [.val (.slice 80 bu),.val (.slice 80 bu)] [] 66 Sx [] (.bq (u2 f212))
theorem adU:hS adT:=
 cO ⟨[],[(9,Sw)],[],[(4,⟨adS,fun u2=>Int.toNat u2.2.2.1+1⟩)],[],[]⟩ hz aK Tryz.call212 Tryz.func212
def f150(a0:dr)(a1:dr):Zl:=
 Option.bind (α:=Bool) (if decide (a0.1=a1.1) then(if decide (a0.2.1=a1.2.1) then((f210 a0.2.2.1 a1.2.2.1).bind fun y1=>if y1=true then((f211 a0.2.2.2.1 a1.2.2.2.1).bind fun y2=>if y2=true then((f212 a0.2.2.2.2.1 a1.2.2.2.2.1).bind fun y3=>some y3) else(some false)) else(some false)) else(some false)) else(some false)) fun v4=>some v4
def adV:SS:=⟨38,78,[(4,vB)],[],[]⟩
def adW:aZ:=aG G [.tmp 4] 150 [.val bG,.val bG] [] 78 adV [] (.bq (u2 f150))
theorem adX:hS adW:=
 cO (hR [hD 1 4 [cA 0,cA 1,cA 2]]) (hq acv (hq acy (hq adU hz))) aK Tryz.call150 Tryz.func150
def Gb:Nat→Zp×Zp×BX→Zs:=aL fun al4 ⟨d,c,b,a⟩=>if decide (a<b) then(if 0≤a then(if a<(c.length:Int) then(if 0≤a then(if a<(d.length:Int) then((f150 (nth bG c a) (nth bG d a)).bind fun y4=>if !y4 then(bX (some false)) else(al4 (d,c,b,bp (a+1)))) else none) else none) else none) else none) else(some (.brk ()))
def Bk(a0:Zp)(a1:Zp):Zl:=
 if !decide ((a0.length:Int)=(a1.length:Int)) then(some false) else(aI (U:=Unit) (Gb (Int.toNat (a0.length:Int)+1) (a1,a0,(a0.length:Int),0)) fun _v1=>some true)
def adY:SS:=⟨32,72,[(1,.val (.slice 96 bG)),(2,.func 150 .nil .nil),(15,.val (.slice 96 bG)),tI 16,tI 17],[],[]⟩
def PK:aZ:=aG G [.tmp 6] 149 [.val (.slice 96 bG),.val (.slice 96 bG),.func 150 .nil .nil] [] 72 OB [] (.bq (u2 Bk))
theorem PN:hS PK:=
 cO ⟨[hA 7 0],[(10,OA)],[],[(4,⟨adY,fun u2=>Int.toNat u2.2.2.1+1⟩)],[],[]⟩ (hq adX hz) aK Tryz.call149 Tryz.func149
def PO:Nat→Zw×Zw×BX→Zs:=aL fun al4 ⟨c,d,b,a⟩=>if decide (a<b) then(if 0≤a then(if a<(c.length:Int) then(if 0≤a then(if a<(d.length:Int) then(if !bl aU (nth aU c a) (nth aU d a) then(bX (some false)) else(al4 (c,d,b,bp (a+1)))) else none) else none) else none) else none) else(some (.brk ()))
def f213(a0:Zw)(a1:Zw):Zl:=
 if !decide ((a0.length:Int)=(a1.length:Int)) then(some false) else(aI (U:=Unit) (PO (Int.toNat (a0.length:Int)+1) (a0,a1,(a0.length:Int),0)) fun _v1=>some true)
def adZ:aZ:=aG G [.tmp 4] 213 [.val (.slice 56 aU),.val (.slice 56 aU)] [] 66 Sx [] (.bq (u2 f213))
theorem ad0:hS adZ:=
 cO ⟨[],[(9,Sw)],[],[(4,⟨W9,fun u2=>Int.toNat u2.2.2.1+1⟩)],[],[]⟩ hz aK Tryz.call213 Tryz.func213
def f152(a0:sW)(a1:sW):Zl:=
 Option.bind (α:=Bool) (if decide (a0.1=a1.1) then(if decide (a0.2.1=a1.2.1) then(if decide (a0.2.2.1=a1.2.2.1) then(if decide (a0.2.2.2.1=a1.2.2.2.1) then((f213 a0.2.2.2.2.1 a1.2.2.2.2.1).bind fun y1=>some y1) else(some false)) else(some false)) else(some false)) else(some false)) fun v2=>some v2
def ad1:SS:=⟨38,78,[(4,vB)],[],[]⟩
def ad2:aZ:=aG G [.tmp 4] 152 [.val gw,.val gw] [] 78 ad1 [] (.bq (u2 f152))
theorem ad3:hS ad2:=
 cO (hR [hD 1 4 [cA 0]]) (hq ad0 hz) aK Tryz.call152 Tryz.func152
def Gc:Nat→ZJ×ZJ×BX→Zs:=aL fun al4 ⟨d,c,b,a⟩=>if decide (a<b) then(if 0≤a then(if a<(c.length:Int) then(if 0≤a then(if a<(d.length:Int) then((f152 (nth gw c a) (nth gw d a)).bind fun y4=>if !y4 then(bX (some false)) else(al4 (d,c,b,bp (a+1)))) else none) else none) else none) else none) else(some (.brk ()))
def Bl(a0:ZJ)(a1:ZJ):Zl:=
 if !decide ((a0.length:Int)=(a1.length:Int)) then(some false) else(aI (U:=Unit) (Gc (Int.toNat (a0.length:Int)+1) (a1,a0,(a0.length:Int),0)) fun _v1=>some true)
def ad4:SS:=⟨32,72,[(1,.val (.slice 72 gw)),(2,.func 152 .nil .nil),(15,.val (.slice 72 gw)),tI 16,tI 17],[],[]⟩
def PQ:aZ:=aG G [.tmp 6] 151 [.val (.slice 72 gw),.val (.slice 72 gw),.func 152 .nil .nil] [] 72 OB [] (.bq (u2 Bl))
theorem PR:hS PQ:=
 cO ⟨[hA 7 0],[(10,OA)],[],[(4,⟨ad4,fun u2=>Int.toNat u2.2.2.1+1⟩)],[],[]⟩ (hq ad3 hz) aK Tryz.call151 Tryz.func151
def PT:Nat→List pX×List pX×BX→Zs:=aL fun al4 ⟨c,d,b,a⟩=>if decide (a<b) then(if 0≤a then(if a<(c.length:Int) then(if 0≤a then(if a<(d.length:Int) then(if !bl fa (nth fa c a) (nth fa d a) then(bX (some false)) else(al4 (c,d,b,bp (a+1)))) else none) else none) else none) else none) else(some (.brk ()))
def f214(a0:List pX)(a1:List pX):Zl:=
 if !decide ((a0.length:Int)=(a1.length:Int)) then(some false) else(aI (U:=Unit) (PT (Int.toNat (a0.length:Int)+1) (a0,a1,(a0.length:Int),0)) fun _v1=>some true)
def ad5:SS:=⟨26,66,[(0,.val (.slice 48 fa)),(1,.val (.slice 48 fa)),tI 12,tI 13],[],[]⟩
def ad6:aZ:=aG G [.tmp 4] 214 [.val (.slice 48 fa),.val (.slice 48 fa)] [] 66 Sx [] (.bq (u2 f214))
theorem ad7:hS ad6:=
 cO ⟨[],[(9,Sw)],[],[(4,⟨ad5,fun u2=>Int.toNat u2.2.2.1+1⟩)],[],[]⟩ hz aK Tryz.call214 Tryz.func214
def f154(a0:oL)(a1:oL):Zl:=
 Option.bind (α:=Bool) (if decide (a0.1=a1.1) then(if decide (a0.2.2.1=a1.2.2.1) then((f214 a0.2.1 a1.2.1).bind fun y1=>some y1) else(some false)) else(some false)) fun v2=>some v2
def ad8:SS:=⟨24,64,[(4,vB)],[],[]⟩
def ad9:aZ:=aG G [.tmp 4] 154 [.val dL,.val dL] [] 64 ad8 [] (.bq (u2 f154))
theorem aea:hS ad9:=
 cO (hR [hD 1 4 [cA 0]]) (hq ad7 hz) aK Tryz.call154 Tryz.func154
def Ge:Nat→ZE×ZE×BX→Zs:=aL fun al4 ⟨d,c,b,a⟩=>if decide (a<b) then(if 0≤a then(if a<(c.length:Int) then(if 0≤a then(if a<(d.length:Int) then((f154 (nth dL c a) (nth dL d a)).bind fun y4=>if !y4 then(bX (some false)) else(al4 (d,c,b,bp (a+1)))) else none) else none) else none) else none) else(some (.brk ()))
def Bm(a0:ZE)(a1:ZE):Zl:=
 if !decide ((a0.length:Int)=(a1.length:Int)) then(some false) else(aI (U:=Unit) (Ge (Int.toNat (a0.length:Int)+1) (a1,a0,(a0.length:Int),0)) fun _v1=>some true)
def aeb:SS:=⟨32,72,[(1,.val (.slice 48 dL)),(2,.func 154 .nil .nil),(15,.val (.slice 48 dL)),tI 16,tI 17],[],[]⟩
def PU:aZ:=aG G [.tmp 6] 153 [.val (.slice 48 dL),.val (.slice 48 dL),.func 154 .nil .nil] [] 72 OB [] (.bq (u2 Bm))
theorem PV:hS PU:=
 cO ⟨[hA 7 0],[(10,OA)],[],[(4,⟨aeb,fun u2=>Int.toNat u2.2.2.1+1⟩)],[],[]⟩ (hq aea hz) aK Tryz.call153 Tryz.func153
def f105(a0:cu)(a1:cu):Zl:=
 Option.bind (α:=Bool) ((f145 a0.1 a1.1).bind fun y1=>if y1=true then((f146 a0.2.1 a1.2.1).bind fun y2=>if y2=true then((Au a0.2.2.1 a1.2.2.1).bind fun y3=>if y3=true then((Bk a0.2.2.2.1 a1.2.2.2.1).bind fun y4=>if y4=true then((Bl a0.2.2.2.2.1 a1.2.2.2.2.1).bind fun y5=>if y5=true then((Bm a0.2.2.2.2.2.1 a1.2.2.2.2.2.1).bind fun y6=>some y6) else(some false)) else(some false)) else(some false)) else(some false)) else(some false)) fun v7=>some v7
def aec:SS:=⟨45,85,[(4,vB)],[],[]⟩
def aed:aZ:=aG G [.tmp 4] 105 [.val iK,.val iK] [] 85 aec [] (.bq (u2 f105))
theorem Yq:hS aed:=
 cO (hR [hD 1 4 [cA 0,cA 1,cA 2,cA 3,cA 4,cA 5]]) (hq KW (hq acb (hq OE (hq PN (hq PR (hq PV hz)))))) aK Tryz.call105 Tryz.func105
def f99(a0:cu):ZU:=
 (f127 a0).bind fun⟨b,a⟩=>if !decide (a=(0:Int)) then(some a) else((f105 b a0).bind fun y2=>if !y2 then(some (160:Int)) else(some (0:Int)))
def aee:SS:=⟨16,56,[tI 2],[],[]⟩
def c99:aZ:=aG G [.tmp 2] 99 [.val iK] [] 56 aee [] (.bq (u1 f99))
theorem x99:hS c99:=
 cO (hR [hA 1 0,hA 4 1]) (hq ab8 (hq Yq hz)) aK Tryz.call99 Tryz.func99
def f184(a0:oL):Zl:=
 some (decide ((64:Int)<(a0.2.1.length:Int)))
def aef:SS:=⟨7,47,[(2,vB)],[],[]⟩
def aeg:aZ:=aG G [.tmp 2] 184 [.val dL] [] 47 aef [] (.bq (u1 f184))
theorem aeh:hS aeg:=
 cO (hR []) hz aK Tryz.call184 Tryz.func184
def Gf:Nat→ZE×BX→Option (cJ Unit Int):=aL fun al4 ⟨c,b,a⟩=>if decide (a<b) then(if 0≤a then(if a<(c.length:Int) then((f184 (nth dL c a)).bind fun y4=>if y4=true then(bX (some a)) else(al4 (c,b,bp (a+1)))) else none) else none) else(some (.brk ()))
def Bn(a0:ZE):ZU:=
 aI (U:=Unit) (Gf (Int.toNat (a0.length:Int)+1) (a0,(a0.length:Int),0)) fun _v1=>some (-1:Int)
def aei:SS:=⟨19,59,[],[],[]⟩
def aej:SS:=⟨19,59,[(0,.val (.slice 48 dL)),(1,.func 184 .nil .nil),tI 7,tI 8],[],[]⟩
def aek:SS:=⟨19,59,[tI 4],[],[]⟩
def PW:aZ:=aG G [.tmp 4] 243 [.val (.slice 48 dL),.func 184 .nil .nil] [] 59 aek [] (.bq (u1 Bn))
theorem PX:hS PW:=
 cO ⟨[hA 4 0],[(7,aei)],[],[(2,⟨aej,fun u2=>Int.toNat u2.2.1+1⟩)],[],[]⟩ (hq aeh hz) aK Tryz.call243 Tryz.func243
def vb(a0:ZE):Zl:=
 (Bn a0).bind fun y1=>some (decide ((0:Int)≤y1))
def MR:SS:=⟨9,49,[(4,vB)],[],[]⟩
def PY:aZ:=aG G [.tmp 4] 183 [.val (.slice 48 dL),.func 184 .nil .nil] [] 49 MR [] (.bq (u1 vb))
theorem PZ:hS PY:=
 cO (hR [hA 1 0]) (hq PX hz) aK Tryz.call183 Tryz.func183
def f128(a0:dx):Zl:=
 Option.bind (α:=Bool) (if decide ((8:Int)<(a0.1.1.length:Int)) then(some true) else(if decide ((64:Int)<(a0.1.2.1.length:Int)) then(some true) else(if decide ((16:Int)<(a0.1.2.2.1.length:Int)) then(some true) else(if decide ((16:Int)<(a0.1.2.2.2.1.length:Int)) then(some true) else(if decide ((16:Int)<(a0.1.2.2.2.2.1.length:Int)) then(some true) else(some (decide ((8:Int)<(a0.1.2.2.2.2.2.1.length:Int))))))))) fun v1=>if v1=true then(some false) else((vb a0.1.2.2.2.2.2.1).bind fun y2=>some (!y2))
def ael:SS:=⟨48,88,[(2,vB)],[],[]⟩
def aem:aZ:=aG G [.tmp 2] 128 [.val iL] [] 88 ael [] (.bq (u1 f128))
theorem aen:hS aem:=
 cO (hR [hD 1 42 [],hA 3 0]) (hq PZ hz) aK Tryz.call128 Tryz.func128
def f132(a0:dx)(a1:gQ):Zl:=
 Option.bind (α:=Bool) (if decide ((1:Int)≤a1.2.2.2.2.1) then(if decide (a1.2.2.2.2.1≤(1099511627776:Int)) then(if decide ((0:Int)≤a1.2.2.2.1) then(if decide (a1.2.2.2.1<(a0.1.2.1.length:Int)) then(if 0≤a1.2.2.2.1 then(if a1.2.2.2.1<(a0.1.2.1.length:Int) then(some (decide ((nth aU a0.1.2.1 a1.2.2.2.1).2.2.2.2.1=(1:Int)))) else none) else none) else(some false)) else(some false)) else(some false)) else(some false)) fun v1=>some v1
def aeo:SS:=⟨38,78,[(4,vB)],[],[]⟩
def aep:aZ:=aG G [.tmp 4] 132 [.val iL,.val aU] [] 78 aeo [] (.bq (u2 f132))
theorem Yr:hS aep:=
 cO (hR [hD 1 4 []]) hz aK Tryz.call132 Tryz.func132
def rC(a0:gQ)(a1:dx):S3:=
 (f132 a1 a0).bind fun y1=>some (!y1,a1)
def SY:List (Nat×de):=[(0,.var (.aT .func) (.fq 132 iL))]
def aeq:SS:=⟨8,48,[(3,vB)],SY,[]⟩
def P0:aZ:=aG G [.tmp 3] 190 [.val aU,pP 0] SY 48 aeq [0] (.bq (u2 rC))
theorem P1:hS P0:=
 cO (hR [hA 1 0]) (hq Yr hz) aK Tryz.call190 Tryz.func190
def Gg:Nat→Zw×Int×En→Option (cJ dx En):=aL fun al4 ⟨e,d,c,f⟩=>if decide (c<d) then(if 0≤c then(if c<(e.length:Int) then((rC (nth aU e c) f).bind fun⟨a,b⟩=>if a=true then(bX (some (c,b))) else(al4 (e,d,bp (c+1),b))) else none) else none) else(some (.brk f))
def Bo(a0:Zw)(a1:dx):Option En:=
 aI (U:=dx) (Gg (Int.toNat (a0.length:Int)+1) (a0,(a0.length:Int),0,a1)) fun v1=>some ((-1:Int),v1)
def aer:SS:=⟨19,59,[],SY,[]⟩
def aes:SS:=⟨19,59,[(0,.val (.slice 56 aU)),(1,.func 190 .nil (.cons (pP 0) .nil)),tI 7,tI 8],SY,[]⟩
def aet:SS:=⟨19,59,[tI 4],SY,[]⟩
def P2:aZ:=aG G [.tmp 4] 247 [.val (.slice 56 aU),.func 190 .nil (.cons (pP 0) .nil)] SY 59 aet [0] (.bq (u2 Bo))
theorem P3:hS P2:=
 cO ⟨[hE 4 [cB 0 [(0,0)] []]],[(7,aer)],[],[(2,⟨aes,fun u2=>Int.toNat u2.2.1+1⟩)],[],[]⟩ (hq P1 hz) aK Tryz.call247 Tryz.func247
def Bp(a0:Zw)(a1:dx):S3:=
 (Bo a0 a1).bind fun⟨a,b⟩=>some (decide ((0:Int)≤a),b)
def aeu:SS:=⟨9,49,[(4,vB)],SY,[]⟩
def P4:aZ:=aG G [.tmp 4] 189 [.val (.slice 56 aU),.func 190 .nil (.cons (pP 0) .nil)] SY 49 aeu [0] (.bq (u2 Bp))
theorem P5:hS P4:=
 cO (hR [hE 1 [cB 0 [(0,0)] []]]) (hq P3 hz) aK Tryz.call189 Tryz.func189
def vf(a0:Zw)(a1:dx):Zl:=
 (Bp a0 a1).bind fun⟨a,_⟩=>some (!a)
def P6:aZ:=aG G [.tmp 4] 131 [.val (.slice 56 aU),.fq 132 iL] [] 49 MR [] (.bq (u2 vf))
theorem P7:hS P6:=
 cO (hR [hE 1 [cB 0 [(0,19)] []]]) (hq P5 hz) aK Tryz.call131 Tryz.func131
def P8:Option (List (Option Nat)):=
 some [none,some 259,some 260,some 261,some 262]
def aev:SS:=⟨2,42,[tP 0 16],[(16,.var (.fns 5) (.val (.fns 5)))],[]⟩
def P9:aZ:=aG G [.cell 0 356] 221 [] [] 42 aev [] (.bq (fun _=>P8))
theorem Qa:hS P9:=
 cO (hR []) hz aK Tryz.call221 Tryz.func221
def Bq:Nat→ZM×Int×Int×List (Zi×Bool)→Zs:=aL fun al4 ⟨c,b,a,d⟩=>if decide (a<b) then(if 0≤a then(if a<(c.length:Int) then(if(aP .str .bool (nth .str c a) d)=true then(bX (some false)) else(if d.length+1≤aH then(al4 (c,b,bp (a+1),aY .str (nth .str c a) true d)) else none)) else none) else none) else(some (.brk ()))
def f263(a0:ZM):Zl:=
 aI (U:=Unit) (Bq (Int.toNat (a0.length:Int)+1) (a0,(a0.length:Int),0,([]:List (Zi×Bool)))) fun _v1=>some true
def aew:SS:=⟨21,61,[],[],[]⟩
def aex:SS:=⟨21,61,[(3,.mp 24),(9,.val (.slice 16 .str)),tI 10,tI 11],[(24,.map .str .bool)],[]⟩
def aey:SS:=⟨21,61,[(2,vB)],[],[]⟩
def aez:aZ:=aG G [.tmp 2] 263 [.val (.slice 16 .str)] [] 61 aey [] (.bq (u1 f263))
theorem aeA:hS aez:=
 cO ⟨[],[(9,aew)],[],[(3,⟨aex,fun u2=>Int.toNat u2.2.1+1⟩)],[],[]⟩ hz aK Tryz.call263 Tryz.func263
def f262(a0:dG)(_a1:Int):Zl:=
 Option.bind (α:=Bool) (if decide (a0.2.1=(0:Int)) then(if decide (a0.2.2.1=(bp ((a0.2.2.2.2.2.1.length:Int) -(1:Int)))) then(if decide (a0.2.2.2.2.1=(-1:Int)) then(if decide ((1:Int)≤(a0.2.2.2.2.2.1.length:Int)) then(if decide ((a0.2.2.2.2.2.1.length:Int)≤(16:Int)) then((f263 a0.2.2.2.2.2.1).bind fun y1=>some y1) else(some false)) else(some false)) else(some false)) else(some false)) else(some false)) fun v2=>some v2
def aeB:SS:=⟨39,79,[(4,vB)],[],[]⟩
def aeC:aZ:=aG G [.tmp 4] 262 [.val fD,vI] [] 79 aeB [] (.bq (u2 f262))
theorem aeD:hS aeC:=
 cO (hR [hD 1 4 [cA 0]]) (hq aeA hz) aK Tryz.call262 Tryz.func262
def f261(a0:dG)(_a1:Int):Zl:=
 Option.bind (α:=Bool) (if decide (a0.2.1=(0:Int)) then(if decide (a0.2.2.1=(4095:Int)) then(if decide (a0.2.2.2.2.1=(-1:Int)) then(some (decide ((a0.2.2.2.2.2.1.length:Int)=(0:Int)))) else(some false)) else(some false)) else(some false)) fun v1=>some v1
def Ys:SS:=⟨24,64,[(4,vB)],[],[]⟩
def aeE:aZ:=aG G [.tmp 4] 261 [.val fD,vI] [] 64 Ys [] (.bq (u2 f261))
theorem aeF:hS aeE:=
 cO (hR [hD 1 4 []]) hz aK Tryz.call261 Tryz.func261
def f260(a0:dG)(_a1:Int):Zl:=
 Option.bind (α:=Bool) (if decide (a0.2.1=(0:Int)) then(if decide (a0.2.2.1=(1023:Int)) then(if decide (a0.2.2.2.2.1=(-1:Int)) then(some (decide ((a0.2.2.2.2.2.1.length:Int)=(0:Int)))) else(some false)) else(some false)) else(some false)) fun v1=>some v1
def aeG:aZ:=aG G [.tmp 4] 260 [.val fD,vI] [] 64 Ys [] (.bq (u2 f260))
theorem aeH:hS aeG:=
 cO (hR [hD 1 4 []]) hz aK Tryz.call260 Tryz.func260
def f259(a0:dG)(a1:Int):Zl:=
 Option.bind (α:=Bool) (if decide ((0:Int)≤a0.2.1) then(if decide (a0.2.1≤a0.2.2.1) then(if decide (a0.2.2.1≤(1048576:Int)) then(if decide ((-1:Int)≤a0.2.2.2.2.1) then(if decide (a0.2.2.2.2.1<a1) then(some (decide ((a0.2.2.2.2.2.1.length:Int)=(0:Int)))) else(some false)) else(some false)) else(some false)) else(some false)) else(some false)) fun v1=>some v1
def aeI:SS:=⟨37,77,[(4,vB)],[],[]⟩
def aeJ:aZ:=aG G [.tmp 4] 259 [.val fD,vI] [] 77 aeI [] (.bq (u2 f259))
theorem aeK:hS aeJ:=
 cO (hR [hD 1 4 []]) hz aK Tryz.call259 Tryz.func259
def f168(a0:dx)(a1:dG):Zl:=
 aI (U:=dx×dG) (Option.bind (α:=Bool) (if decide (a1.1<(1:Int)) then(some true) else(some (decide ((4:Int)<a1.1)))) fun v2=>if v2=true then(bX (some false)) else(some (.brk (a0,a1)))) fun⟨b,a⟩=>if 0≤a.1 then(if a.1<(5:Int) then(if a.1=(0:Int) then none else(if a.1=(1:Int) then((f259 a (b.1.2.1.length:Int)).bind fun y6=>some y6) else(if a.1=(2:Int) then((f260 a (b.1.2.1.length:Int)).bind fun y5=>some y5) else(if a.1=(3:Int) then((f261 a (b.1.2.1.length:Int)).bind fun y4=>some y4) else(if a.1=(4:Int) then((f262 a (b.1.2.1.length:Int)).bind fun y3=>some y3) else none))))) else none) else none
def aeL:SS:=⟨23,63,[tP 2 18,tP 3 19],[(18,bV iL),(19,bV fD)],[]⟩
def aeM:SS:=⟨23,63,[(4,vB)],[],[]⟩
def aeN:aZ:=aG G [.tmp 4] 168 [.val iL,.val fD] [] 63 aeM [] (.bq (u2 f168))
theorem UH:hS aeN:=
 cO ⟨[hD 1 12 [],hE 3 [cA 0,⟨[1,2,3,4],[],[],[],[]⟩]],[(3,aeL)],[],[],[],[]⟩ (hq Qa (hq aeD (hq aeF (hq aeH (hq aeK hz))))) aK Tryz.call168 Tryz.func168
def oz:Nat→ZH×Int×Int×UQ×En→Option (cJ (ZH×Int×En) (cJ Unit Bool)):=aL fun rec9 ⟨c,d,e,b,a,f⟩=>if decide (a<(4:Int)) then(if 0≤a then(if a<(4:Int) then(Option.bind (α:=Bool) (if decide ((nth (.int .i64) b a)<(0:Int)) then(some true) else(some (decide ((9:Int)<(nth (.int .i64) b a))))) fun v10=>if v10=true then(bX (bX (some false))) else(rec9 (c,d,e,b,bp (a+1),f))) else none) else none) else(some (.brk (c,d,e,f)))
def vg:Nat→ZH×Int×En→Zs:=aL fun amx ⟨g,f,e,h⟩=>if decide (e<f) then(aI (U:=ZH×Int×En) (if 0≤e then(if e<(g.length:Int) then((f168 h (nth bO g e).2.1).bind fun y7=>if !y7 then(bX (bX (some false))) else(oz (Int.toNat (4:Int)+1) (g,f,e,(nth bO g e).2.2.1,0,h))) else none) else none) fun⟨a,b,c,d⟩=>amx (a,b,bp (c+1),d)) else(some (.brk ()))
def f134(a0:dx)(a1:lW):Zl:=
 aI (U:=dx×lW) (Option.bind (α:=Bool) (if decide (a1.2.2.1<(0:Int)) then(some true) else(if decide ((a0.1.1.length:Int)≤a1.2.2.1) then(some true) else(if decide (a1.2.2.2.1<(1:Int)) then(some true) else(if decide ((255:Int)<a1.2.2.2.1) then(some true) else(if decide ((a1.2.2.2.2.1.length:Int)<(1:Int)) then(some true) else(if decide ((12:Int)<(a1.2.2.2.2.1.length:Int)) then(some true) else(if(0:Int)<(a1.2.2.2.2.1.length:Int) then(some (!decide ((nth bO a1.2.2.2.2.1 (0:Int)).2.1.1=(3:Int)))) else none))))))) fun v2=>if v2=true then(bX (some false)) else(some (.brk (a0,a1)))) fun⟨b,a⟩=>aI (U:=Unit) (vg (Int.toNat (a.2.2.2.2.1.length:Int)+1) (a.2.2.2.2.1,(a.2.2.2.2.1.length:Int),0,b)) fun _v3=>some true
def aeO:SS:=⟨77,117,[tP 2 18,tP 3 19],[(18,bV iL),(19,bV bF)],[]⟩
def Yt:SS:=⟨77,117,[tP 2 18,(53,.val (.slice 120 bO)),tI 54,tI 55],[(18,bV iL)],[]⟩
def aeP:SS:=⟨77,117,[],[],[]⟩
def aeQ:SS:=⟨77,117,[tP 2 18,(53,.val (.slice 120 bO)),tI 54,tI 55,(65,.val Eb),tI 66],[(18,bV iL)],[]⟩
def aeR:SS:=⟨77,117,[(4,vB)],[],[]⟩
def aeS:aZ:=aG G [.tmp 4] 134 [.val iL,.val bF] [] 117 aeR [] (.bq (u2 f134))
theorem aeT:hS aeS:=
 cO ⟨[hD 1 51 [],hA 6 0,hD 11 74 []],[(3,aeO),(14,Yt),(15,aeP)],[],[(4,⟨Yt,fun u4=>Int.toNat u4.2.1+1⟩),(9,⟨aeQ,fun _=>Int.toNat (4:Int)+1⟩)],[],[]⟩ (hq UH hz) aK Tryz.call134 Tryz.func134
def rD(a0:lW)(a1:dx):S3:=
 (f134 a1 a0).bind fun y1=>some (!y1,a1)
def SZ:List (Nat×de):=[(0,.var (.aT .func) (.fq 134 iL))]
def aeU:SS:=⟨8,48,[(3,vB)],SZ,[]⟩
def Qb:aZ:=aG G [.tmp 3] 192 [.val bF,pP 0] SZ 48 aeU [0] (.bq (u2 rD))
theorem Qc:hS Qb:=
 cO (hR [hA 1 0]) (hq aeT hz) aK Tryz.call192 Tryz.func192
def Gi:Nat→ZG×Int×En→Option (cJ dx En):=aL fun al4 ⟨e,d,c,f⟩=>if decide (c<d) then(if 0≤c then(if c<(e.length:Int) then((rD (nth bF e c) f).bind fun⟨a,b⟩=>if a=true then(bX (some (c,b))) else(al4 (e,d,bp (c+1),b))) else none) else none) else(some (.brk f))
def Br(a0:ZG)(a1:dx):Option En:=
 aI (U:=dx) (Gi (Int.toNat (a0.length:Int)+1) (a0,(a0.length:Int),0,a1)) fun v1=>some ((-1:Int),v1)
def aeV:SS:=⟨19,59,[],SZ,[]⟩
def aeW:SS:=⟨19,59,[(0,.val (.slice 96 bF)),(1,.func 192 .nil (.cons (pP 0) .nil)),tI 7,tI 8],SZ,[]⟩
def aeX:SS:=⟨19,59,[tI 4],SZ,[]⟩
def Qd:aZ:=aG G [.tmp 4] 248 [.val (.slice 96 bF),.func 192 .nil (.cons (pP 0) .nil)] SZ 59 aeX [0] (.bq (u2 Br))
theorem Qe:hS Qd:=
 cO ⟨[hE 4 [cB 0 [(0,0)] []]],[(7,aeV)],[],[(2,⟨aeW,fun u2=>Int.toNat u2.2.1+1⟩)],[],[]⟩ (hq Qc hz) aK Tryz.call248 Tryz.func248
def Bs(a0:ZG)(a1:dx):S3:=
 (Br a0 a1).bind fun⟨a,b⟩=>some (decide ((0:Int)≤a),b)
def aeY:SS:=⟨9,49,[(4,vB)],SZ,[]⟩
def Qf:aZ:=aG G [.tmp 4] 191 [.val (.slice 96 bF),.func 192 .nil (.cons (pP 0) .nil)] SZ 49 aeY [0] (.bq (u2 Bs))
theorem Qg:hS Qf:=
 cO (hR [hE 1 [cB 0 [(0,0)] []]]) (hq Qe hz) aK Tryz.call191 Tryz.func191
def vj(a0:ZG)(a1:dx):Zl:=
 (Bs a0 a1).bind fun⟨a,_⟩=>some (!a)
def Qh:aZ:=aG G [.tmp 4] 133 [.val (.slice 96 bF),.fq 134 iL] [] 49 MR [] (.bq (u2 vj))
theorem Qi:hS Qh:=
 cO (hR [hE 1 [cB 0 [(0,19)] []]]) (hq Qg hz) aK Tryz.call133 Tryz.func133
def f167(a0:dx)(a1:Int)(a2:Int):Option (Bool×dG):=
 aI (U:=Int×Int×dx×Int×Int×Int×Zi×Int) (Option.bind (α:=Bool) (if decide (a1<(0:Int)) then(some true) else(if decide ((a0.1.2.2.1.length:Int)≤a1) then(some true) else(if decide (a2<(0:Int)) then(some true) else(if 0≤a1 then(if a1<(a0.1.2.2.1.length:Int) then(some (decide ((List.length (nth bF a0.1.2.2.1 a1).2.2.2.2.1:Int)≤a2))) else none) else none)))) fun v2=>if v2=true then(bX (some (false,0,0,0,[],0,([]:ZM),()))) else(some (.brk (a1,a2,a0,0,0,0,[],0)))) fun⟨a,c,b,_,_,_,_,_⟩=>if 0≤a then(if a<(b.1.2.2.1.length:Int) then(if 0≤c then(if c<(List.length (nth bF b.1.2.2.1 a).2.2.2.2.1:Int) then(some (true,(nth bO (nth bF b.1.2.2.1 a).2.2.2.2.1 c).2.1)) else none) else none) else none) else none
def aeZ:SS:=⟨46,86,[tI 1,tI 2,tP 3 19,tP 6 22],[(19,bV iL),(22,.var fD (.cons vI (.cons vI (.cons vI (.cons (.val .str) (.cons vI (.cons .bn .nil)))))))],[]⟩
def ae0:SS:=⟨46,86,[tP 6 22,(7,vB)],[(22,bV fD)],[]⟩
def ae1:aZ:=aG G [.cell 6 119,.tmp 7] 167 [.val iL,vI,vI] [] 86 ae0 [] (.bq (u3 f167))
theorem MT:hS ae1:=
 cO ⟨[hD 1 33 []],[(3,aeZ)],[],[],[],[]⟩ hz aK Tryz.call167 Tryz.func167
def f244(a0:fE)(a1:gQ)(a2:Int):Option (Bool×dG):=
 aI (U:=fE×gQ×Int×Int×Int×Zi×Int) (Option.bind (α:=Bool) (if decide (a1.2.2.1<(0:Int)) then(some true) else(some (decide (a2≤a1.2.2.1)))) fun v2=>if v2=true then(bX (some (false,0,0,0,[],0,([]:ZM),()))) else(some (.brk (a0,a1,0,0,0,[],0)))) fun⟨b,a,_,_,_,_,_⟩=>if 0≤a.2.2.1 then(if a.2.2.1<(b.2.1.2.2.1.length:Int) then((f167 b.1 (nth aQ b.2.1.2.2.1 a.2.2.1).2.2.1 a.2.2.2.1).bind fun⟨c,d⟩=>some (c,d)) else none) else none
def ae2:SS:=⟨33,73,[tP 3 19,tP 4 20,tP 6 22],[(19,bV mu),(20,bV aU),(22,.var fD (.cons vI (.cons vI (.cons vI (.cons (.val .str) (.cons vI (.cons .bn .nil)))))))],[]⟩
def ae3:SS:=⟨33,73,[tP 6 22,(7,vB)],[(22,bV fD)],[]⟩
def ae4:aZ:=aG G [.cell 6 119,.tmp 7] 244 [.val mu,.val aU,vI] [] 73 ae3 [] (.bq (u3 f244))
theorem UI:hS ae4:=
 cO ⟨[hD 1 16 [],hA 3 0],[(3,ae2)],[],[],[],[]⟩ (hq MT hz) aK Tryz.call244 Tryz.func244
def vn:Nat→Zy×Int×Int×fE→Zs:=aL fun amx ⟨k,j,i,l⟩=>if decide (i<j) then(if 0≤i then(if i<(k.length:Int) then(aI (U:=Int×Zy×Int×Int×fE×BW) (Option.bind (α:=Bool) (if decide ((nth aQ k i).2.2.1<(0:Int)) then(some true) else(some (decide ((l.1.1.2.2.1.length:Int)≤(nth aQ k i).2.2.1)))) fun v7=>if v7=true then(bX (bX (some false))) else(some (.brk (i,k,j,i,l,nth aQ k i)))) fun⟨f,b,c,d,e,a⟩=>if decide (a.2.2.2.1.2.2.1=(-1:Int)) then(amx (b,c,bp (d+1),e)) else((f244 e a.2.2.2.1 f).bind fun⟨g,h⟩=>Option.bind (α:=Bool) (if !g then(some true) else(some (!decide (h.1=(3:Int))))) fun v9=>if v9=true then(bX (some false)) else(amx (b,c,bp (d+1),e)))) else none) else none) else(some (.brk ()))
def f185(a0:fE):Zl:=
 aI (U:=fE) (Option.bind (α:=Bool) (if decide ((a0.2.1.2.2.1.length:Int)<(1:Int)) then(some true) else(some (decide ((3:Int)<(a0.2.1.2.2.1.length:Int))))) fun v2=>if v2=true then(bX (some false)) else(some (.brk a0))) fun v1=>aI (U:=Unit) (vn (Int.toNat (v1.2.1.2.2.1.length:Int)+1) (v1.2.1.2.2.1,(v1.2.1.2.2.1.length:Int),0,v1)) fun _v3=>some true
def ae5:SS:=⟨61,101,[tP 1 17],[(17,bV mu)],[]⟩
def ae6:SS:=⟨61,101,[tP 1 17,tI 3,tP 4 20,(21,.val (.slice 96 aQ)),tI 22,tI 23],[(17,bV mu),(20,bV aQ)],[]⟩
def ae7:SS:=⟨61,101,[],[],[]⟩
def ae8:SS:=⟨61,101,[tP 1 17,(21,.val (.slice 96 aQ)),tI 22,tI 23],[(17,bV mu)],[]⟩
def ae9:SS:=⟨61,101,[(2,vB)],[],[]⟩
def afa:aZ:=aG G [.tmp 2] 185 [.val mu] [] 101 ae9 [] (.bq (u1 f185))
theorem afb:hS afa:=
 cO ⟨[hD 1 18 [],hD 6 40 [],hA 9 0,hD 10 59 []],[(3,ae5),(8,ae6),(13,ae7)],[],[(4,⟨ae8,fun u4=>Int.toNat u4.2.1+1⟩)],[],[]⟩ (hq UI hz) aK Tryz.call185 Tryz.func185
def f245(a0:gQ):Zl:=
 Option.bind (α:=Bool) (if decide (a0.2.2.1=(-1:Int)) then(if decide ((0:Int)≤a0.2.2.2.2.1) then(some (decide (a0.2.2.2.2.1≤(1048576:Int)))) else(some false)) else(some false)) fun v1=>some v1
def afc:SS:=⟨16,56,[(2,vB)],[],[]⟩
def afd:aZ:=aG G [.tmp 2] 245 [.val aU] [] 56 afc [] (.bq (u1 f245))
theorem Yu:hS afd:=
 cO (hR [hD 1 2 []]) hz aK Tryz.call245 Tryz.func245
def f246(a0:dx)(a1:dG)(a2:dG):Zl:=
 aI (U:=dx×dG×dG) (if !decide (a1.1=a2.1) then(bX (some false)) else(if decide (a1.1=(4:Int)) then((f145 a1.2.2.2.2.2.1 a2.2.2.2.2.2.1).bind fun y2=>bX (some y2)) else(Option.bind (α:=Bool) (if !decide (a1.1=(1:Int)) then(some true) else(if decide (a1.2.2.2.2.1=(-1:Int)) then(some true) else(some (decide (a2.2.2.2.2.1=(-1:Int)))))) fun v3=>if v3=true then(bX (some (decide (a1.2.2.2.2.1=a2.2.2.2.2.1)))) else(some (.brk (a0,a1,a2)))))) fun⟨b,a,c⟩=>if 0≤a.2.2.2.2.1 then(if a.2.2.2.2.1<(b.1.2.1.length:Int) then(if 0≤c.2.2.2.2.1 then(if c.2.2.2.2.1<(b.1.2.1.length:Int) then(some (decide ((nth aU b.1.2.1 a.2.2.2.2.1).2.2.2.1=(nth aU b.1.2.1 c.2.2.2.2.1).2.2.2.1))) else none) else none) else none) else none
def afe:SS:=⟨58,98,[tP 3 19,tP 4 20,tP 5 21],[(19,bV iL),(20,bV fD),(21,bV fD)],[]⟩
def aff:SS:=⟨58,98,[(6,vB)],[],[]⟩
def afg:aZ:=aG G [.tmp 6] 246 [.val iL,.val fD,.val fD] [] 98 aff [] (.bq (u3 f246))
theorem afh:hS afg:=
 cO ⟨[hA 4 0,hD 5 22 []],[(7,afe)],[],[],[],[]⟩ (hq KW hz) aK Tryz.call246 Tryz.func246
def oA:Nat→Int×Int×fE×rM×Zw×List dG→Option (cJ (fE×rM×List dG) Bool):=aL fun amx ⟨d,c,f,h,e,g⟩=>if decide (c<d) then(if 0≤c then(if c<(e.length:Int) then((f244 f (nth aU e c) (f.2.1.2.2.1.length:Int)).bind fun⟨a,b⟩=>Option.bind (α:=Bool) (if !a then((f245 (nth aU e c)).bind fun y7=>some (!y7)) else(some false)) fun v8=>if v8=true then(bX (some false)) else(if a=true then(if(List.length g+List.length [b])*72≤aH then(amx (d,bp (c+1),f,h,e,g++[b])) else none) else(amx (d,bp (c+1),f,h,e,g)))) else none) else none) else(some (.brk (f,h,g)))
def nD:Nat→Int×Int×rM×List dG→Zs:=aL fun rec14 ⟨b,a,d,c⟩=>if decide (a<b) then(if 0≤a then(if a<(c.length:Int) then(Option.bind (α:=Bool) (if decide ((nth fD c a).1=(1:Int)) then(some true) else(some (decide ((nth fD c a).1=(2:Int))))) fun v15=>Option.bind (α:=Bool) (if decide (d.1=(2:Int)) then(some (!v15)) else(if decide (d.1=(3:Int)) then(some (!v15)) else(some false))) fun v16=>if v16=true then(bX (some false)) else(rec14 (b,bp (a+1),d,c))) else none) else none) else(some (.brk ()))
def f186(a0:fE)(a1:rM):Zl:=
 aI (U:=fE×rM) (Option.bind (α:=Bool) (if decide (a1.1<(1:Int)) then(some true) else(some (decide ((4:Int)<a1.1)))) fun v2=>if v2=true then(bX (some false)) else(some (.brk (a0,a1)))) fun⟨b,a⟩=>aI (U:=fE×rM×List dG) (oA (Int.toNat (List.length [a.2.1,a.2.2.1]:Int)+1) ((List.length [a.2.1,a.2.2.1]:Int),0,b,a,[a.2.1,a.2.2.1],([]:List dG))) fun⟨d,e,c⟩=>aI (U:=rM×List dG) (Option.bind (α:=Bool) (if decide ((c.length:Int)=(0:Int)) then(some true) else(if decide ((c.length:Int)=(2:Int)) then(if(0:Int)<(c.length:Int) then(if(1:Int)<(c.length:Int) then((f246 d.1 (nth fD c (0:Int)) (nth fD c (1:Int))).bind fun y10=>some (!y10)) else none) else none) else(some false))) fun v11=>if v11=true then(bX (some false)) else(some (.brk (e,c)))) fun⟨g,f⟩=>aI (U:=Unit) (nD (Int.toNat (f.length:Int)+1) ((f.length:Int),0,g,f)) fun _v12=>some true
def afi:SS:=⟨101,141,[tP 2 18,tP 3 19],[(18,bV mu),(19,bV aV)],[]⟩
def afj:SS:=⟨101,141,[tP 2 18,tP 3 19,(5,.own 118)],[(18,bV mu),(19,bV aV),(118,.row 119 72 fD)],[]⟩
def Yw:List (Nat×de):=[(19,bV aV),(118,.row 119 72 fD)]
def afk:SS:=⟨101,141,[tP 3 19,(5,.own 118)],Yw,[]⟩
def afl:SS:=⟨101,141,[],[],[]⟩
def afm:SS:=⟨101,141,[tP 2 18,tP 3 19,(5,.own 117),(25,.own 41),tI 26,tI 27],[(18,bV mu),(19,bV aV),(41,.row 128 56 aU),(117,.row 119 72 fD)],[]⟩
def afn:SS:=⟨101,141,[tP 3 19,(74,.own 118),tI 75,tI 76],Yw,[]⟩
def afo:SS:=⟨101,141,[(4,vB)],[],[]⟩
def afp:aZ:=aG G [.tmp 4] 186 [.val mu,.val aV] [] 141 afo [] (.bq (u2 f186))
theorem afq:hS afp:=
 cO ⟨[hD 1 20 [],hA 7 0,hD 8 47 [cA 1],hD 13 73 [cA 2],hD 18 12 [],hD 19 99 []],[(3,afi),(13,afj),(15,afk),(22,afl)],[],[(5,⟨afm,fun u4=>Int.toNat u4.1+1⟩),(16,⟨afn,fun Kb=>Int.toNat Kb.1+1⟩)],[],[]⟩ (hq UI (hq Yu (hq afh hz))) aK Tryz.call186 Tryz.func186
def f187(a0:fE)(a1:dG)(a2:gQ):Zl:=
 (f245 a2).bind fun y1=>if y1=true then(Option.bind (α:=Bool) (if decide (a1.2.1≤a2.2.2.2.2.1) then(some (decide (a2.2.2.2.2.1≤a1.2.2.1))) else(some false)) fun v2=>some v2) else((f244 a0 a2 (a0.2.1.2.2.1.length:Int)).bind fun⟨a,b⟩=>Option.bind (α:=Bool) (if a=true then(if decide (b.1=a1.1) then(if decide (b.2.2.2.2.1=a1.2.2.2.2.1) then((f145 b.2.2.2.2.2.1 a1.2.2.2.2.2.1).bind fun y4=>if y4=true then(if decide (a1.2.1≤b.2.1) then(if decide (b.2.1≤a1.2.2.1) then(if decide (a1.2.1≤b.2.2.1) then(some (decide (b.2.2.1≤a1.2.2.1))) else(some false)) else(some false)) else(some false)) else(some false)) else(some false)) else(some false)) else(some false)) fun v5=>some v5)
def afr:SS:=⟨83,123,[(6,vB)],[],[]⟩
def afs:aZ:=aG G [.tmp 6] 187 [.val mu,.val fD,.val aU] [] 123 afr [] (.bq (u3 f187))
theorem aft:hS afs:=
 cO (hR [hA 1 0,hD 2 6 [],hA 3 1,hD 4 6 [cA 2]]) (hq Yu (hq UI (hq KW hz))) aK Tryz.call187 Tryz.func187
def Bt:Nat→Ze×Int×Int×Zu→Zs:=aL fun al4 ⟨c,b,a,d⟩=>if decide (a<b) then(if 0≤a then(if a<(c.length:Int) then(if(aP (.int .i64) .bool (nth (.int .i64) c a) d)=true then(bX (some false)) else(if d.length+1≤aH then(al4 (c,b,bp (a+1),aY (.int .i64) (nth (.int .i64) c a) true d)) else none)) else none) else none) else(some (.brk ()))
def f188(a0:Ze):Zl:=
 aI (U:=Unit) (Bt (Int.toNat (a0.length:Int)+1) (a0,(a0.length:Int),0,([]:Zu))) fun _v1=>some true
def afu:SS:=⟨21,61,[],[],[]⟩
def afv:SS:=⟨21,61,[(3,.mp 24),(9,.val (.slice 8 (.int .i64))),tI 10,tI 11],[(24,.map (.int .i64) .bool)],[]⟩
def afw:SS:=⟨21,61,[(2,vB)],[],[]⟩
def afx:aZ:=aG G [.tmp 2] 188 [.val (.slice 8 (.int .i64))] [] 61 afw [] (.bq (u1 f188))
theorem afy:hS afx:=
 cO ⟨[],[(9,afu)],[],[(3,⟨afv,fun u2=>Int.toNat u2.2.1+1⟩)],[],[]⟩ hz aK Tryz.call188 Tryz.func188
def rE:Nat→ZB×Int×Int×fE→Option (cJ fE Bool):=aL fun rec6 ⟨c,b,a,d⟩=>if decide (a<b) then(if 0≤a then(if a<(c.length:Int) then((f186 d (nth aV c a)).bind fun y7=>if !y7 then(bX (some false)) else(rec6 (c,b,bp (a+1),d))) else none) else none) else(some (.brk d))
def kZ:Nat→Int×ZC×Int×Int×fE×Ze→Option (cJ Ze Bool):=aL fun rec12 ⟨g,e,d,c,f,h⟩=>if decide (c<d) then(if 0≤c then(if c<(e.length:Int) then((f167 f.1 g (nth bu e c).2.1).bind fun⟨a,b⟩=>Option.bind (α:=Bool) (if !a then(some true) else(if decide ((nth bu e c).2.1=(0:Int)) then(some true) else((f187 f b (nth bu e c).2.2.1).bind fun y14=>some (!y14)))) fun v15=>if v15=true then(bX (some false)) else(if(List.length h+List.length [(nth bu e c).2.1])*8≤aH then(rec12 (g,e,d,bp (c+1),f,h++[(nth bu e c).2.1])) else none)) else none) else none) else(some (.brk h))
def f130(a0:fE):Zl:=
 aI (U:=fE) (Option.bind (α:=Bool) ((f185 a0).bind fun y2=>if !y2 then(some true) else(some (decide ((8:Int)<(a0.2.1.2.2.2.1.length:Int))))) fun v3=>if v3=true then(bX (some false)) else(some (.brk a0))) fun v1=>aI (U:=fE) (rE (Int.toNat (v1.2.1.2.2.2.1.length:Int)+1) (v1.2.1.2.2.2.1,(v1.2.1.2.2.2.1.length:Int),0,v1)) fun v4=>aI (U:=Int×fE) (Option.bind (α:=Bool) (if decide (v4.2.1.2.1<(0:Int)) then(some true) else(if decide ((v4.1.1.2.2.1.length:Int)≤v4.2.1.2.1) then(some true) else(if 0≤v4.2.1.2.1 then(if v4.2.1.2.1<(v4.1.1.2.2.1.length:Int) then(some (!decide ((v4.2.1.2.2.2.2.1.length:Int)=(bp ((List.length (nth bF v4.1.1.2.2.1 v4.2.1.2.1).2.2.2.2.1:Int) -(1:Int)))))) else none) else none))) fun v9=>if v9=true then(bX (some false)) else(some (.brk (v4.2.1.2.1,v4)))) fun⟨b,a⟩=>aI (U:=Ze) (kZ (Int.toNat (a.2.1.2.2.2.2.1.length:Int)+1) (b,a.2.1.2.2.2.2.1,(a.2.1.2.2.2.2.1.length:Int),0,a,([]:Ze))) fun v10=>(f188 v10).bind fun y16=>some y16
def Yx:SS:=⟨105,145,[tP 1 17],[(17,bV mu)],[]⟩
def afz:SS:=⟨105,145,[tP 1 17,tI 5],[(17,bV mu)],[]⟩
def afA:SS:=⟨105,145,[(6,.own 122)],[(122,.row 3 8 (.int .i64))],[]⟩
def afB:SS:=⟨105,145,[tP 1 17,(23,.val (.slice 120 aV)),tI 24,tI 25],[(17,bV mu)],[]⟩
def afC:SS:=⟨105,145,[tP 1 17,tI 5,(6,.own 121),(67,.val (.slice 80 bu)),tI 68,tI 69],[(17,bV mu),(121,.row 3 8 (.int .i64))],[]⟩
def afD:SS:=⟨105,145,[(2,vB)],[],[]⟩
def afE:aZ:=aG G [.tmp 2] 130 [.val mu] [] 145 afD [] (.bq (u1 f130))
theorem afF:hS afE:=
 cO ⟨[hD 1 20 [cA 0],hA 6 1,hD 10 64 [],hA 16 2,hD 17 96 [cA 3],hA 21 4],[(3,Yx),(9,Yx),(12,afz),(21,afA)],[],[(4,⟨afB,fun u5=>Int.toNat u5.2.1+1⟩),(14,⟨afC,fun MW=>Int.toNat MW.2.2.1+1⟩)],[],[]⟩ (hq afb (hq afq (hq MT (hq aft (hq afy hz))))) aK Tryz.call130 Tryz.func130
def Bu(a0:dr)(a1:dx):Zl:=
 (f130 (a1,a0,())).bind fun y1=>some y1
def afG:SS:=⟨8,48,[(3,vB)],[],[]⟩
def Qj:aZ:=aG G [.tmp 3] 129 [.val bG,.cd iL] [] 48 afG [] (.bq (u2 Bu))
theorem Qk:hS Qj:=
 cO (hR [hA 1 0]) (hq afF hz) aK Tryz.call129 Tryz.func129
def rF(a0:dr)(a1:dx):S3:=
 (Bu a0 a1).bind fun y1=>some (!y1,a1)
def S0:List (Nat×de):=[(0,.var (.aT .func) (.func 129 .nil (.cons (.cd iL) .nil)))]
def afH:SS:=⟨8,48,[(3,vB)],S0,[]⟩
def Ql:aZ:=aG G [.tmp 3] 194 [.val bG,pP 0] S0 48 afH [0] (.bq (u2 rF))
theorem Qm:hS Ql:=
 cO (hR [hA 1 0]) (hq Qk hz) aK Tryz.call194 Tryz.func194
def Gj:Nat→Zp×Int×En→Option (cJ dx En):=aL fun al4 ⟨e,d,c,f⟩=>if decide (c<d) then(if 0≤c then(if c<(e.length:Int) then((rF (nth bG e c) f).bind fun⟨a,b⟩=>if a=true then(bX (some (c,b))) else(al4 (e,d,bp (c+1),b))) else none) else none) else(some (.brk f))
def Bv(a0:Zp)(a1:dx):Option En:=
 aI (U:=dx) (Gj (Int.toNat (a0.length:Int)+1) (a0,(a0.length:Int),0,a1)) fun v1=>some ((-1:Int),v1)
def afI:SS:=⟨19,59,[],S0,[]⟩
def afJ:SS:=⟨19,59,[(0,.val (.slice 96 bG)),(1,.func 194 .nil (.cons (pP 0) .nil)),tI 7,tI 8],S0,[]⟩
def afK:SS:=⟨19,59,[tI 4],S0,[]⟩
def Qn:aZ:=aG G [.tmp 4] 249 [.val (.slice 96 bG),.func 194 .nil (.cons (pP 0) .nil)] S0 59 afK [0] (.bq (u2 Bv))
theorem Qo:hS Qn:=
 cO ⟨[hE 4 [cB 0 [(0,0)] []]],[(7,afI)],[],[(2,⟨afJ,fun u2=>Int.toNat u2.2.1+1⟩)],[],[]⟩ (hq Qm hz) aK Tryz.call249 Tryz.func249
def Bw(a0:Zp)(a1:dx):S3:=
 (Bv a0 a1).bind fun⟨a,b⟩=>some (decide ((0:Int)≤a),b)
def afL:SS:=⟨9,49,[(4,vB)],S0,[]⟩
def Qp:aZ:=aG G [.tmp 4] 193 [.val (.slice 96 bG),.func 194 .nil (.cons (pP 0) .nil)] S0 49 afL [0] (.bq (u2 Bw))
theorem Qq:hS Qp:=
 cO (hR [hE 1 [cB 0 [(0,0)] []]]) (hq Qo hz) aK Tryz.call193 Tryz.func193
def vo(a0:Zp)(a1:dx):Zl:=
 (Bw a0 a1).bind fun⟨a,_⟩=>some (!a)
def Qr:aZ:=aG G [.tmp 4] 135 [.val (.slice 96 bG),.func 129 .nil (.cons (.cd iL) .nil)] [] 49 MR [] (.bq (u2 vo))
theorem Qs:hS Qr:=
 cO (hR [hE 1 [cB 0 [(0,19)] []]]) (hq Qq hz) aK Tryz.call135 Tryz.func135
def oB:Nat→List pX×Int×Int×dx×oL→Option (cJ oL Bool):=aL fun al4 ⟨d,c,b,e,f⟩=>if decide (b<c) then(if 0≤b then(if b<(d.length:Int) then((f167 e (nth fa d b).2.2.1 (nth fa d b).2.2.2.1).bind fun⟨a,_⟩=>if !a then(bX (some false)) else(al4 (d,c,bp (b+1),e,f))) else none) else none) else(some (.brk f))
def f137(a0:dx)(a1:oL):Zl:=
 aI (U:=oL) (oB (Int.toNat (a1.2.1.length:Int)+1) (a1.2.1,(a1.2.1.length:Int),0,a0,a1)) fun v1=>Option.bind (α:=Bool) (if decide ((0:Int)≤v1.2.2.1) then(some (decide (v1.2.2.1≤(64:Int)))) else(some false)) fun v5=>some v5
def afM:SS:=⟨36,76,[tP 3 19],[(19,bV dL)],[]⟩
def afN:SS:=⟨36,76,[tP 2 18,tP 3 19,(10,.val (.slice 48 fa)),tI 11,tI 12],[(18,bV iL),(19,bV dL)],[]⟩
def afO:SS:=⟨36,76,[(4,vB)],[],[]⟩
def afP:aZ:=aG G [.tmp 4] 137 [.val iL,.val dL] [] 76 afO [] (.bq (u2 f137))
theorem afQ:hS afP:=
 cO ⟨[hA 4 0,hD 8 4 []],[(8,afM)],[],[(2,⟨afN,fun u2=>Int.toNat u2.2.1+1⟩)],[],[]⟩ (hq MT hz) aK Tryz.call137 Tryz.func137
def rG(a0:oL)(a1:dx):S3:=
 (f137 a1 a0).bind fun y1=>some (!y1,a1)
def S1:List (Nat×de):=[(0,.var (.aT .func) (.fq 137 iL))]
def afR:SS:=⟨8,48,[(3,vB)],S1,[]⟩
def Qt:aZ:=aG G [.tmp 3] 195 [.val dL,pP 0] S1 48 afR [0] (.bq (u2 rG))
theorem Qu:hS Qt:=
 cO (hR [hA 1 0]) (hq afQ hz) aK Tryz.call195 Tryz.func195
def Gk:Nat→ZE×Int×En→Option (cJ dx En):=aL fun al4 ⟨e,d,c,f⟩=>if decide (c<d) then(if 0≤c then(if c<(e.length:Int) then((rG (nth dL e c) f).bind fun⟨a,b⟩=>if a=true then(bX (some (c,b))) else(al4 (e,d,bp (c+1),b))) else none) else none) else(some (.brk f))
def Bx(a0:ZE)(a1:dx):Option En:=
 aI (U:=dx) (Gk (Int.toNat (a0.length:Int)+1) (a0,(a0.length:Int),0,a1)) fun v1=>some ((-1:Int),v1)
def afS:SS:=⟨19,59,[],S1,[]⟩
def afT:SS:=⟨19,59,[(0,.val (.slice 48 dL)),(1,.func 195 .nil (.cons (pP 0) .nil)),tI 7,tI 8],S1,[]⟩
def afU:SS:=⟨19,59,[tI 4],S1,[]⟩
def Qv:aZ:=aG G [.tmp 4] 243 [.val (.slice 48 dL),.func 195 .nil (.cons (pP 0) .nil)] S1 59 afU [0] (.bq (u2 Bx))
theorem Qw:hS Qv:=
 cO ⟨[hE 4 [cB 0 [(0,0)] []]],[(7,afS)],[],[(2,⟨afT,fun u2=>Int.toNat u2.2.1+1⟩)],[],[]⟩ (hq Qu hz) aK Tryz.call243 Tryz.func243
def By(a0:ZE)(a1:dx):S3:=
 (Bx a0 a1).bind fun⟨a,b⟩=>some (decide ((0:Int)≤a),b)
def afV:SS:=⟨9,49,[(4,vB)],S1,[]⟩
def Qx:aZ:=aG G [.tmp 4] 183 [.val (.slice 48 dL),.func 195 .nil (.cons (pP 0) .nil)] S1 49 afV [0] (.bq (u2 By))
theorem Qz:hS Qx:=
 cO (hR [hE 1 [cB 0 [(0,0)] []]]) (hq Qw hz) aK Tryz.call183 Tryz.func183
def vq(a0:ZE)(a1:dx):Zl:=
 (By a0 a1).bind fun⟨a,_⟩=>some (!a)
def QA:aZ:=aG G [.tmp 4] 136 [.val (.slice 48 dL),.fq 137 iL] [] 49 MR [] (.bq (u2 vq))
theorem QB:hS QA:=
 cO (hR [hE 1 [cB 0 [(0,19)] []]]) (hq Qz hz) aK Tryz.call136 Tryz.func136
def f100(a0:cu):ZU:=
 (f128 (a0,())).bind fun y1=>if !y1 then(some (2:Int)) else(Option.bind (α:=Bool) ((vf a0.2.1 (a0,())).bind fun y2=>if !y2 then(some true) else((vj a0.2.2.1 (a0,())).bind fun y3=>if !y3 then(some true) else((vo a0.2.2.2.1 (a0,())).bind fun y4=>if !y4 then(some true) else((vq a0.2.2.2.2.2.1 (a0,())).bind fun y5=>some (!y5))))) fun v6=>if v6=true then(some (120:Int)) else(some (0:Int)))
def afW:SS:=⟨40,80,[tI 2],[],[]⟩
def afX:aZ:=aG G [.tmp 2] 100 [.val iK] [] 80 afW [] (.bq (u1 f100))
theorem Yy:hS afX:=
 cO (hR [hA 2 0,hD 5 39 [cA 1,cA 2,cA 3,cA 4]]) (hq aen (hq P7 (hq Qi (hq Qs (hq QB hz))))) aK Tryz.call100 Tryz.func100
def f250(a0:Int)(a1:Int):Zl:=
 if 0≤a1 then(some (decide ((iA .and .u64 (Int.fdiv a0 (2^(min (Int.toNat a1) 64))) (1:Int))=(1:Int)))) else none
def afY:SS:=⟨10,50,[(4,vB)],[],[]⟩
def afZ:aZ:=aG G [.tmp 4] 250 [.val (.int .u64),vI] [] 50 afY [] (.bq (u2 f250))
theorem af7:hS afZ:=
 cO (hR []) hz aK Tryz.call250 Tryz.func250
def oC:Nat→Int×Int×Ze×Int×Int×xF→Option (cJ (Int×Int×xF) Bool):=aL fun al4 ⟨d,e,c,b,a,f⟩=>if decide (a<b) then(if 0≤a then(if a<(c.length:Int) then(Option.bind (α:=Bool) (if decide ((nth (.int .i64) c a)<(0:Int)) then(some true) else(if decide (d≤(nth (.int .i64) c a)) then(some true) else((f250 e (nth (.int .i64) c a)).bind fun y4=>some y4))) fun v5=>if v5=true then(bX (some false)) else(if 0≤(nth (.int .i64) c a) then(al4 (d,iA .or .u64 e (IntKind.u64.wrap ((1:Int)*2^(min (Int.toNat (nth (.int .i64) c a)) 64))),c,b,bp (a+1),f)) else none)) else none) else none) else(some (.brk (d,e,f)))
def f196(a0:xF)(a1:Int):Zl:=
 aI (U:=Int×Int×xF) (oC (Int.toNat (a0.2.2.1.length:Int)+1) (a1,0,a0.2.2.1,(a0.2.2.1.length:Int),0,a0)) fun⟨c,a,b⟩=>Option.bind (α:=Bool) (if !decide (a=(0:Int)) then(if decide ((0:Int)≤b.2.2.2.1) then(if decide (b.2.2.2.1<c) then((f250 a b.2.2.2.1).bind fun y6=>some (!y6)) else(some false)) else(some false)) else(some false)) fun v7=>some v7
def af8:SS:=⟨52,92,[tI 1,tP 2 18,(5,.val (.int .u64))],[(18,bV fw)],[]⟩
def af9:SS:=⟨52,92,[tI 1,tP 2 18,(5,.val (.int .u64)),(9,.val (.slice 8 (.int .i64))),tI 10,tI 11],[(18,bV fw)],[]⟩
def aga:SS:=⟨52,92,[(4,vB)],[],[]⟩
def agb:aZ:=aG G [.tmp 4] 196 [.val fw,vI] [] 92 aga [] (.bq (u2 f196))
theorem agc:hS agb:=
 cO ⟨[hD 5 26 [cA 0],hD 9 4 [cA 0]],[(9,af8)],[],[(3,⟨af9,fun u2=>Int.toNat u2.2.2.2.1+1⟩)],[],[]⟩ (hq af7 hz) aK Tryz.call196 Tryz.func196
def rH:Nat→Gt×Int×Int×lW→Option (cJ Unit Int):=aL fun amx ⟨c,b,a,d⟩=>if decide (a<b) then(if 0≤a then(if a<(c.length:Int) then((f196 (nth fw c a) (d.2.2.2.2.1.length:Int)).bind fun y6=>if !y6 then(bX (some (130:Int))) else(amx (c,b,bp (a+1),d))) else none) else none) else(some (.brk ()))
def f138(a0:lW):ZU:=
 aI (U:=lW) (Option.bind (α:=Bool) (if decide ((a0.2.2.2.2.1.length:Int)<(1:Int)) then(some true) else(if decide ((12:Int)<(a0.2.2.2.2.1.length:Int)) then(some true) else(some (decide ((12:Int)<(a0.2.2.2.2.2.1.length:Int)))))) fun v2=>if v2=true then(bX (some (130:Int))) else(some (.brk a0))) fun v1=>aI (U:=Unit) (rH (Int.toNat (v1.2.2.2.2.2.1.length:Int)+1) (v1.2.2.2.2.2.1,(v1.2.2.2.2.2.1.length:Int),0,v1)) fun _v3=>some (0:Int)
def agd:SS:=⟨35,75,[tP 1 17],[(17,bV bF)],[]⟩
def age:SS:=⟨35,75,[],[],[]⟩
def agf:SS:=⟨35,75,[tP 1 17,(22,.val (.slice 72 fw)),tI 23,tI 24],[(17,bV bF)],[]⟩
def agh:SS:=⟨35,75,[tI 2],[],[]⟩
def agi:aZ:=aG G [.tmp 2] 138 [.val bF] [] 75 agh [] (.bq (u1 f138))
theorem agj:hS agi:=
 cO ⟨[hD 1 20 [],hA 6 0],[(3,agd),(9,age)],[],[(4,⟨agf,fun u4=>Int.toNat u4.2.1+1⟩)],[],[]⟩ (hq agc hz) aK Tryz.call138 Tryz.func138
def Bz:Nat→ZG×BX→Option (cJ Unit Int):=aL fun al4 ⟨c,b,a⟩=>if decide (a<b) then(if 0≤a then(if a<(c.length:Int) then((f138 (nth bF c a)).bind fun y4=>if !decide (y4=(0:Int)) then(bX (some y4)) else(al4 (c,b,bp (a+1)))) else none) else none) else(some (.brk ()))
def f101(a0:cu):ZU:=
 aI (U:=Unit) (Bz (Int.toNat (a0.2.2.1.length:Int)+1) (a0.2.2.1,(a0.2.2.1.length:Int),0)) fun _v1=>some (0:Int)
def agk:SS:=⟨19,59,[],[],[]⟩
def agl:SS:=⟨19,59,[(7,.val (.slice 96 bF)),tI 8,tI 9],[],[]⟩
def agm:SS:=⟨19,59,[tI 2],[],[]⟩
def agn:aZ:=aG G [.tmp 2] 101 [.val iK] [] 59 agm [] (.bq (u1 f101))
theorem ago:hS agn:=
 cO ⟨[hA 4 0],[(8,agk)],[],[(2,⟨agl,fun u2=>Int.toNat u2.2.1+1⟩)],[],[]⟩ (hq agj hz) aK Tryz.call101 Tryz.func101
def rI(a0:Int)(a1:Int)(a2:ZO):Option (Bool×ZO):=
 Option.bind (α:=Bool) (if decide ((0:Int)≤a1) then(some (decide (a1<a0))) else(some false)) fun v1=>some (v1,a2)
def Yz:List (Nat×de):=[(0,.pmap (.int .i64) (.map (.int .i64) .bool) 0)]
def agp:SS:=⟨13,53,[(4,vB)],Yz,[]⟩
def QC:aZ:=aG G [.tmp 4] 199 [.cons vI (.cons (.mp 0) .nil),vI] Yz 53 agp [0] (.bq (u3 rI))
theorem QD:hS QC:=
 cO (hR [hD 1 4 []]) hz aK Tryz.call199 Tryz.func199
def k7:Nat→Zp×Int×Int×Zy×Int×Int×Int×dr×ZO→Option (cJ (Zp×Int×Int×Int×ZO) (cJ (Int×ZO) (Int×dN))):=aL fun rec8 ⟨i,j,k,e,d,c,f,h,g⟩=>if decide (c<d) then(if 0≤c then(if c<(e.length:Int) then((rI f (nth aQ e c).2.2.1 g).bind fun⟨a,b⟩=>if !a then(bX (bX (some (140,0,(none:Option ZO),())))) else(if bT (.int .i64) h.2.1 b=true then(if bl (.int .i64) h.2.1 h.2.1=true then(if List.length (aX (aP (.int .i64) (.map (.int .i64) .bool) h.2.1 b))+1≤aH then(rec8 (i,j,k,e,d,bp (c+1),f,h,aY (.int .i64) h.2.1 (some (aY (.int .i64) (nth aQ e c).2.2.1 true (aX (aP (.int .i64) (.map (.int .i64) .bool) h.2.1 b)))) b)) else none) else none) else none)) else none) else none) else(some (.brk (i,j,k,f,g)))
def oD:Nat→Zp×Int×Int×Int×ZO→Option (cJ (Int×ZO) (Int×dN)):=aL fun al4 ⟨p,o,n,q,r⟩=>if decide (n<o) then(aI (U:=Zp×Int×Int×Int×ZO) (if 0≤n then(if n<(p.length:Int) then((rI q (nth bG p n).2.1 r).bind fun⟨a,b⟩=>if !a then(bX (bX (some (140,0,(none:Option ZO),())))) else(aI (U:=Zp×Int×Int×Int×dr×ZO) (if !(bT (.int .i64) (nth bG p n).2.1 b) then(if bT (.int .i64) (nth bG p n).2.1 b=false then(if bl (.int .i64) (nth bG p n).2.1 (nth bG p n).2.1=true then(if b.length+1≤aH then(some (.brk (p,o,n,q,nth bG p n,aY (.int .i64) (nth bG p n).2.1 (some ([]:Zu)) (aY (.int .i64) (nth bG p n).2.1 (Ty.aD (.map (.int .i64) .bool)) b)))) else none) else none) else none) else(some (.brk (p,o,n,q,nth bG p n,b)))) fun⟨d,e,f,g,c,h⟩=>k7 (Int.toNat (c.2.2.1.length:Int)+1) (d,e,f,c.2.2.1,(c.2.2.1.length:Int),0,g,c,h))) else none) else none) fun⟨i,j,k,l,m⟩=>al4 (i,j,bp (k+1),l,m)) else(some (.brk (q,r)))
def f142(a0:cu):Option (Int×dN):=
 aI (U:=Int×ZO) (oD (Int.toNat (a0.2.2.2.1.length:Int)+1) (a0.2.2.2.1,(a0.2.2.2.1.length:Int),0,(a0.2.2.1.length:Int),([]:ZO))) fun⟨a,b⟩=>some (0,a,some b,())
def YA:List (Nat×de):=[(18,.var oK (.cons vI (.cons (.mp 27) .nil))),(21,bV bG),(27,.pmap (.int .i64) (.map (.int .i64) .bool) 0)]
def agq:SS:=⟨60,100,[tP 2 18,tP 5 21,(14,.val (.slice 96 bG)),tI 15,tI 16],YA,[]⟩
def YB:List (Nat×de):=[(18,.var oK (.cons vI (.cons (.mp 27) .nil))),(27,.pmap (.int .i64) (.map (.int .i64) .bool) 0)]
def YD:SS:=⟨60,100,[tP 2 18,(14,.val (.slice 96 bG)),tI 15,tI 16],YB,[]⟩
def agr:SS:=⟨60,100,[tP 2 18],YB,[]⟩
def ags:SS:=⟨60,100,[tP 2 18,tP 5 21,(14,.val (.slice 96 bG)),tI 15,tI 16,(38,.val (.slice 96 aQ)),tI 39,tI 40],YA,[]⟩
def agt:SS:=⟨60,100,[tP 2 18,tI 3],[(18,bV oK)],[]⟩
def agu:aZ:=aG G [.cell 2 260,.tmp 3] 142 [.val iK] [] 100 agt [] (.bq (u1 f142))
theorem agv:hS agu:=
 cO ⟨[(2,⟨[.NI 27 0],[],[],none,[],[],[]⟩),hE 5 [cB 0 [(0,27)] []],(8,⟨[],[],[],none,[],[.map 0 27 0 (.c 5 [.cC 1])],[.nk 27]⟩),hE 12 [cB 0 [(0,27)] []],(14,⟨[],[],[],none,[],[.map 1 27 76 (.c 5 [.cC 1])],[.nk 27]⟩),(17,⟨[.Mt 27],[],[],none,[],[],[]⟩)],[(9,agq),(16,YD),(17,agr)],[],[(3,⟨YD,fun u2=>Int.toNat u2.2.1+1⟩),(10,⟨ags,fun u7=>Int.toNat u7.2.2.2.2.1+1⟩)],[],[]⟩ (hq QD hz) aK Tryz.call142 Tryz.func142
def BA(a0:dN):Option dN:=
 some a0
def agw:SS:=⟨4,44,[(2,.func 201 .nil (.cons (pP 17) .nil))],[(17,bV oK)],[]⟩
def QE:aZ:=aG G [.tmp 2] 144 [.val oK] [] 44 agw [17] (.bq (u1 BA))
theorem QF:hS QE:=
 cO (hR []) hz aK Tryz.call144 Tryz.func144
def ij:Nat→Int×Int×Int×dN×ZX×Zu→Option (cJ (Int×Int×dN×ZX) (cJ ZX ZX)):=aL fun rec6 ⟨f,b,c,d,e,a⟩=>if List.isEmpty a=true then(some (.brk (b,c,d,e))) else uq a fun x7 l8=>if 0≤x7.1 then(if x7.1<(e.length:Int) then(if 0≤x7.1 then(if Int.toNat x7.1=(Int.toNat x7.1) then(if(List.length (List.getD e (Int.toNat x7.1) [])+List.length [f])*8≤aH then(if 0≤x7.1 then(if Int.toNat x7.1=(Int.toNat x7.1) then(rec6 (f,b,c,d,List.set e (Int.toNat x7.1) ((List.getD e (Int.toNat x7.1) [])++[f]),l8)) else none) else none) else none) else none) else none) else none) else none
def ju:Nat→Int×Int×dN×ZX→Option (cJ ZX ZX):=aL fun al4 ⟨f,e,g,h⟩=>if decide (e<f) then(aI (U:=Int×Int×dN×ZX) (ij (List.length (aX (aP (.int .i64) (.map (.int .i64) .bool) e (aX g.2.1)))+1) (e,f,e,g,h,aX (aP (.int .i64) (.map (.int .i64) .bool) e (aX g.2.1)))) fun⟨a,b,c,d⟩=>al4 (a,bp (b+1),c,d)) else(some (.brk h))
def f202(a0:dN):Option ZX:=
 if 0≤a0.1 then(if a0.1≤a0.1 then(if a0.1*(24:Int)≤(aH:Int) then(aI (U:=ZX) (ju (Int.toNat a0.1+1) (a0.1,0,a0,List.replicate (Int.toNat a0.1) [])) fun v1=>some v1) else none) else none) else none
def YE:SS:=⟨35,75,[tP 1 17,(3,.own 24),tI 10,tI 11],[(17,bV oK),(24,.cT 30 24 (.slice 8 (.int .i64)) 3)],[]⟩
def agx:SS:=⟨35,75,[(3,.own 24)],[(24,.cT 30 24 (.slice 8 (.int .i64)) 3)],[]⟩
def agy:SS:=⟨35,75,[tP 1 17,(3,.own 24),tI 4,tI 10,tI 11,tP 18 34],[(17,bV oK),(24,.cT 30 24 (.slice 8 (.int .i64)) 3),(34,.ky (.int .i64) .bool)],[]⟩
def agz:SS:=⟨35,75,[(2,.val (.slice 24 (.slice 8 (.int .i64))))],[],[]⟩
def YF:aZ:=aG G [.tmp 2] 202 [.val oK] [] 75 agz [] (.bq (u1 f202))
theorem agA:hS YF:=
 cO ⟨[(8,⟨[],[],[],none,[],[.row 24 51 (.t 5)],[.qZ 24]⟩),(10,⟨[.Mt 24],[],[],none,[],[],[]⟩)],[(9,YE),(10,agx)],[],[(3,⟨YE,fun u2=>Int.toNat u2.1+1⟩),(6,⟨agy,fun u5=>List.length u5.2.2.2.2.2+1⟩)],[],[]⟩ hz aK Tryz.call202 Tryz.func202
def rJ(a0:Ze):Option (Int×Ze):=
 some ((a0.length:Int),a0)
def agB:SS:=⟨5,45,[tI 2],[(0,.row 3 8 (.int .i64))],[]⟩
def QG:aZ:=aG G [.tmp 2] 204 [.own 0] [(0,.row 3 8 (.int .i64))] 45 agB [0] (.bq (u1 rJ))
theorem Io:hS QG:=
 cO (hR []) hz aK Tryz.call204 Tryz.func204
def lT(a0:Int)(a1:Int)(a2:Ze):Option (Bool×Ze):=
 if 0≤a0 then(if a0<(a2.length:Int) then(if 0≤a1 then(if a1<(a2.length:Int) then(some (decide ((nth (.int .i64) a2 a0)<(nth (.int .i64) a2 a1)),a2)) else none) else none) else none) else none
def agC:SS:=⟨16,56,[(6,vB)],[(0,.row 3 8 (.int .i64))],[]⟩
def QH:aZ:=aG G [.tmp 6] 280 [.own 0,vI,vI] [(0,.row 3 8 (.int .i64))] 56 agC [0] (.bq (u3 lT))
theorem Ip:hS QH:=
 cO (hR []) hz aK Tryz.call280 Tryz.func280
def lU(a0:Int)(a1:Int)(a2:Ze):Option Ze:=
 if 0≤a1 then(if a1<(a2.length:Int) then(if 0≤a0 then(if a0<(a2.length:Int) then(if 0≤a0 then(if a0<(a2.length:Int) then(if 0≤a1 then(if a1<(List.length (List.set a2 (Int.toNat a0) (nth (.int .i64) a2 a1)):Int) then(some (List.set (List.set a2 (Int.toNat a0) (nth (.int .i64) a2 a1)) (Int.toNat a1) (nth (.int .i64) a2 a0))) else none) else none) else none) else none) else none) else none) else none) else none
def agD:SS:=⟨20,60,[],[(0,.row 3 8 (.int .i64))],[]⟩
def QI:aZ:=aG G [] 284 [.own 0,vI,vI] [(0,.row 3 8 (.int .i64))] 60 agD [0] (.bq (u3 lU))
theorem BB:hS QI:=
 cO (hR []) hz aK Tryz.call284 Tryz.func284
def pW:Nat→Int×Ze→Option (cJ Ze Ze):=aL fun al4 ⟨c,d⟩=>if decide ((bp (Int.tdiv (bp (c -(1:Int))) (2:Int)))=c) then(some (.brk d)) else((lT c (bp (Int.tdiv (bp (c -(1:Int))) (2:Int))) d).bind fun⟨a,b⟩=>if !a then(some (.brk b)) else((lU (bp (Int.tdiv (bp (c -(1:Int))) (2:Int))) c b).bind fun y5=>al4 (bp (Int.tdiv (bp (c -(1:Int))) (2:Int)),y5)))
def BC(a0:Int)(a1:Ze):Option Ze:=
 aI (U:=Ze) (pW iZ (a0,a1)) fun v1=>some v1
def JL:List (Nat×de):=[(0,.var sV (.cons (.own 1) .nil)),(1,.row 3 8 (.int .i64))]
def YG:SS:=⟨23,63,[],JL,[]⟩
def agE:SS:=⟨23,63,[(0,.iface 333 (pP 0)),tI 1],JL,[]⟩
def QJ:aZ:=aG G [] 251 [.iface 333 (pP 0),vI] JL 63 YG [0,1] (.bq (u2 BC))
theorem QK:hS QJ:=
 cO ⟨[hE 1 [cB 0 [(0,1)] []],hE 2 [cB 1 [(0,1)] []]],[],[(0,YG)],[(0,⟨agE,fun _=>iZ⟩)],[],[]⟩ (hq Ip (hq BB hz)) aK Tryz.call251 Tryz.func251
def BD(a0:Int)(a1:Ze):Option Ze:=
 if(List.length a1+List.length [a0])*8≤aH then(some (a1++[a0])) else none
def agF:SS:=⟨22,62,[],[(0,.var sV (.cons (.own 35) .nil)),(35,.row 3 8 (.int .i64))],[]⟩
def QL:aZ:=aG G [] 282 [pP 0,.iface 3 vI] JL 62 agF [0,35] (.bq (u2 BD))
theorem QM:hS QL:=
 cO (hR []) hz aK Tryz.call282 Tryz.func282
def rK(a0:Int)(a1:Ze):Option Ze:=
 (BD a0 a1).bind fun y1=>(rJ y1).bind fun⟨a,b⟩=>(BC (bp (a -(1:Int))) b).bind fun y3=>some y3
def agG:SS:=⟨12,52,[],[(0,.var sV (.cons (.own 22) .nil)),(22,.row 3 8 (.int .i64))],[]⟩
def Iq:aZ:=aG G [] 203 [.iface 333 (pP 0),.iface 3 vI] JL 52 agG [0,22] (.bq (u2 rK))
theorem QN:hS Iq:=
 cO (hR [hE 0 [cB 0 [(0,0),(1,1)] [(35,22)]],hE 1 [cB 1 [(0,22)] [],cB 2 [(0,0),(1,22)] []]]) (hq QM (hq Io (hq QK hz))) aK Tryz.call203 Tryz.func203
end Go.Proofs.YtpmlkhjpbjnagaaGreat
