/- part -/
import Derived.Test.YtpmlkhjpbjnagaaGreatF2
noncomputable section
namespace Go.Proofs.YtpmlkhjpbjnagaaGreat
open Go.Ax
def Qc:Nat→ZC×ZC×yq→Zs:=aL fun amC ⟨c,d,b,a⟩=>if decide (a<b) then(if 0≤a then(if a<(c.length:Int) then(if 0≤a then(if a<(d.length:Int) then(if !bl bu (nth bu c a) (nth bu d a) then(bU (some false)) else(amC (c,d,b,bq (a+1)))) else none) else none) else none) else none) else(some (.brk ()))
def f212(a0:ZC)(a1:ZC):Zm:=
 if !decide ((a0.length:Int)=(a1.length:Int)) then(some false) else(aI (U:=Unit) (Qc (Int.toNat (a0.length:Int)+1) (a0,a1,(a0.length:Int),0)) fun _v1=>some true)
def ad6:SS:=⟨26,66,[(0,.val (.slice 80 bu)),(1,.val (.slice 80 bu)),tI 12,tI 13],[],[]⟩
def ad7:bh:=aF G [.tmp 4] 212 [.val (.slice 80 bu),.val (.slice 80 bu)] [] 66 S6 [] (.br (u2 f212))
theorem ad8:hS ad7:=
 cO ⟨[],[(9,S5)],[],[(4,⟨ad6,fun u2=>Int.toNat u2.2.2.1+1⟩)],[],[]⟩ hz aJ Tryz.call212 Tryz.func212
def f150(a0:dt)(a1:dt):Zm:=
 Option.bind (α:=Bool) (if decide (a0.1=a1.1) then(if decide (a0.2.1=a1.2.1) then((f210 a0.2.2.1 a1.2.2.1).bind fun y1=>if y1=true then((f211 a0.2.2.2.1 a1.2.2.2.1).bind fun y2=>if y2=true then((f212 a0.2.2.2.2.1 a1.2.2.2.2.1).bind fun y3=>some y3) else(some false)) else(some false)) else(some false)) else(some false)) fun v4=>some v4
def ad9:SS:=⟨38,78,[(4,vB)],[],[]⟩
def aea:bh:=aF G [.tmp 4] 150 [.val bG,.val bG] [] 78 ad9 [] (.br (u2 f150))
theorem aeb:hS aea:=
 cO (hR [hD 1 4 [cA 0,cA 1,cA 2]]) (hq acT (hq acW (hq ad8 hz))) aJ Tryz.call150 Tryz.func150
def Gq:Nat→Zo×Zo×yq→Zs:=aL fun amC ⟨d,c,b,a⟩=>if decide (a<b) then(if 0≤a then(if a<(c.length:Int) then(if 0≤a then(if a<(d.length:Int) then((f150 (nth bG c a) (nth bG d a)).bind fun y4=>if !y4 then(bU (some false)) else(amC (d,c,b,bq (a+1)))) else none) else none) else none) else none) else(some (.brk ()))
def Bp(a0:Zo)(a1:Zo):Zm:=
 if !decide ((a0.length:Int)=(a1.length:Int)) then(some false) else(aI (U:=Unit) (Gq (Int.toNat (a0.length:Int)+1) (a1,a0,(a0.length:Int),0)) fun _v1=>some true)
def aec:SS:=⟨32,72,[(1,.val (.slice 96 bG)),(2,.func 150 .nil .nil),(15,.val (.slice 96 bG)),tI 16,tI 17],[],[]⟩
def Qd:bh:=aF G [.tmp 6] 149 [.val (.slice 96 bG),.val (.slice 96 bG),.func 150 .nil .nil] [] 72 O6 [] (.br (u2 Bp))
theorem Qe:hS Qd:=
 cO ⟨[hA 7 0],[(10,O5)],[],[(4,⟨aec,fun u2=>Int.toNat u2.2.2.1+1⟩)],[],[]⟩ (hq aeb hz) aJ Tryz.call149 Tryz.func149
def Qf:Nat→Zw×Zw×yq→Zs:=aL fun amC ⟨c,d,b,a⟩=>if decide (a<b) then(if 0≤a then(if a<(c.length:Int) then(if 0≤a then(if a<(d.length:Int) then(if !bl aU (nth aU c a) (nth aU d a) then(bU (some false)) else(amC (c,d,b,bq (a+1)))) else none) else none) else none) else none) else(some (.brk ()))
def f213(a0:Zw)(a1:Zw):Zm:=
 if !decide ((a0.length:Int)=(a1.length:Int)) then(some false) else(aI (U:=Unit) (Qf (Int.toNat (a0.length:Int)+1) (a0,a1,(a0.length:Int),0)) fun _v1=>some true)
def aed:bh:=aF G [.tmp 4] 213 [.val (.slice 56 aU),.val (.slice 56 aU)] [] 66 S6 [] (.br (u2 f213))
theorem aee:hS aed:=
 cO ⟨[],[(9,S5)],[],[(4,⟨Xy,fun u2=>Int.toNat u2.2.2.1+1⟩)],[],[]⟩ hz aJ Tryz.call213 Tryz.func213
def f152(a0:th)(a1:th):Zm:=
 Option.bind (α:=Bool) (if decide (a0.1=a1.1) then(if decide (a0.2.1=a1.2.1) then(if decide (a0.2.2.1=a1.2.2.1) then(if decide (a0.2.2.2.1=a1.2.2.2.1) then((f213 a0.2.2.2.2.1 a1.2.2.2.2.1).bind fun y1=>some y1) else(some false)) else(some false)) else(some false)) else(some false)) fun v2=>some v2
def aef:SS:=⟨38,78,[(4,vB)],[],[]⟩
def aeg:bh:=aF G [.tmp 4] 152 [.val gA,.val gA] [] 78 aef [] (.br (u2 f152))
theorem aeh:hS aeg:=
 cO (hR [hD 1 4 [cA 0]]) (hq aee hz) aJ Tryz.call152 Tryz.func152
def Gr:Nat→ZJ×ZJ×yq→Zs:=aL fun amC ⟨d,c,b,a⟩=>if decide (a<b) then(if 0≤a then(if a<(c.length:Int) then(if 0≤a then(if a<(d.length:Int) then((f152 (nth gA c a) (nth gA d a)).bind fun y4=>if !y4 then(bU (some false)) else(amC (d,c,b,bq (a+1)))) else none) else none) else none) else none) else(some (.brk ()))
def Bq(a0:ZJ)(a1:ZJ):Zm:=
 if !decide ((a0.length:Int)=(a1.length:Int)) then(some false) else(aI (U:=Unit) (Gr (Int.toNat (a0.length:Int)+1) (a1,a0,(a0.length:Int),0)) fun _v1=>some true)
def aei:SS:=⟨32,72,[(1,.val (.slice 72 gA)),(2,.func 152 .nil .nil),(15,.val (.slice 72 gA)),tI 16,tI 17],[],[]⟩
def Qg:bh:=aF G [.tmp 6] 151 [.val (.slice 72 gA),.val (.slice 72 gA),.func 152 .nil .nil] [] 72 O6 [] (.br (u2 Bq))
theorem Qh:hS Qg:=
 cO ⟨[hA 7 0],[(10,O5)],[],[(4,⟨aei,fun u2=>Int.toNat u2.2.2.1+1⟩)],[],[]⟩ (hq aeh hz) aJ Tryz.call151 Tryz.func151
def Qi:Nat→List pZ×List pZ×yq→Zs:=aL fun amC ⟨c,d,b,a⟩=>if decide (a<b) then(if 0≤a then(if a<(c.length:Int) then(if 0≤a then(if a<(d.length:Int) then(if !bl fe (nth fe c a) (nth fe d a) then(bU (some false)) else(amC (c,d,b,bq (a+1)))) else none) else none) else none) else none) else(some (.brk ()))
def f214(a0:List pZ)(a1:List pZ):Zm:=
 if !decide ((a0.length:Int)=(a1.length:Int)) then(some false) else(aI (U:=Unit) (Qi (Int.toNat (a0.length:Int)+1) (a0,a1,(a0.length:Int),0)) fun _v1=>some true)
def aej:SS:=⟨26,66,[(0,.val (.slice 48 fe)),(1,.val (.slice 48 fe)),tI 12,tI 13],[],[]⟩
def aek:bh:=aF G [.tmp 4] 214 [.val (.slice 48 fe),.val (.slice 48 fe)] [] 66 S6 [] (.br (u2 f214))
theorem ael:hS aek:=
 cO ⟨[],[(9,S5)],[],[(4,⟨aej,fun u2=>Int.toNat u2.2.2.1+1⟩)],[],[]⟩ hz aJ Tryz.call214 Tryz.func214
def f154(a0:oP)(a1:oP):Zm:=
 Option.bind (α:=Bool) (if decide (a0.1=a1.1) then(if decide (a0.2.2.1=a1.2.2.1) then((f214 a0.2.1 a1.2.1).bind fun y1=>some y1) else(some false)) else(some false)) fun v2=>some v2
def aem:SS:=⟨24,64,[(4,vB)],[],[]⟩
def aen:bh:=aF G [.tmp 4] 154 [.val dL,.val dL] [] 64 aem [] (.br (u2 f154))
theorem aeo:hS aen:=
 cO (hR [hD 1 4 [cA 0]]) (hq ael hz) aJ Tryz.call154 Tryz.func154
def Gs:Nat→ZE×ZE×yq→Zs:=aL fun amC ⟨d,c,b,a⟩=>if decide (a<b) then(if 0≤a then(if a<(c.length:Int) then(if 0≤a then(if a<(d.length:Int) then((f154 (nth dL c a) (nth dL d a)).bind fun y4=>if !y4 then(bU (some false)) else(amC (d,c,b,bq (a+1)))) else none) else none) else none) else none) else(some (.brk ()))
def Br(a0:ZE)(a1:ZE):Zm:=
 if !decide ((a0.length:Int)=(a1.length:Int)) then(some false) else(aI (U:=Unit) (Gs (Int.toNat (a0.length:Int)+1) (a1,a0,(a0.length:Int),0)) fun _v1=>some true)
def aep:SS:=⟨32,72,[(1,.val (.slice 48 dL)),(2,.func 154 .nil .nil),(15,.val (.slice 48 dL)),tI 16,tI 17],[],[]⟩
def Qj:bh:=aF G [.tmp 6] 153 [.val (.slice 48 dL),.val (.slice 48 dL),.func 154 .nil .nil] [] 72 O6 [] (.br (u2 Br))
theorem Qk:hS Qj:=
 cO ⟨[hA 7 0],[(10,O5)],[],[(4,⟨aep,fun u2=>Int.toNat u2.2.2.1+1⟩)],[],[]⟩ (hq aeo hz) aJ Tryz.call153 Tryz.func153
def f105(a0:cu)(a1:cu):Zm:=
 Option.bind (α:=Bool) ((f145 a0.1 a1.1).bind fun y1=>if y1=true then((f146 a0.2.1 a1.2.1).bind fun y2=>if y2=true then((AA a0.2.2.1 a1.2.2.1).bind fun y3=>if y3=true then((Bp a0.2.2.2.1 a1.2.2.2.1).bind fun y4=>if y4=true then((Bq a0.2.2.2.2.1 a1.2.2.2.2.1).bind fun y5=>if y5=true then((Br a0.2.2.2.2.2.1 a1.2.2.2.2.2.1).bind fun y6=>some y6) else(some false)) else(some false)) else(some false)) else(some false)) else(some false)) fun v7=>some v7
def aeq:SS:=⟨45,85,[(4,vB)],[],[]⟩
def aer:bh:=aF G [.tmp 4] 105 [.val iN,.val iN] [] 85 aeq [] (.br (u2 f105))
theorem Yt:hS aer:=
 cO (hR [hD 1 4 [cA 0,cA 1,cA 2,cA 3,cA 4,cA 5]]) (hq Lk (hq acC (hq O8 (hq Qe (hq Qh (hq Qk hz)))))) aJ Tryz.call105 Tryz.func105
def f99(a0:cu):ZV:=
 (f127 a0).bind fun⟨b,a⟩=>if !decide (a=(0:Int)) then(some a) else((f105 b a0).bind fun y2=>if !y2 then(some (160:Int)) else(some (0:Int)))
def aes:SS:=⟨16,56,[tI 2],[],[]⟩
def c99:bh:=aF G [.tmp 2] 99 [.val iN] [] 56 aes [] (.br (u1 f99))
theorem x99:hS c99:=
 cO (hR [hA 1 0,hA 4 1]) (hq acz (hq Yt hz)) aJ Tryz.call99 Tryz.func99
def f184(a0:oP):Zm:=
 some (decide ((64:Int)<(a0.2.1.length:Int)))
def aet:SS:=⟨7,47,[(2,vB)],[],[]⟩
def aeu:bh:=aF G [.tmp 2] 184 [.val dL] [] 47 aet [] (.br (u1 f184))
theorem aev:hS aeu:=
 cO (hR []) hz aJ Tryz.call184 Tryz.func184
def Gt:Nat→ZE×yq→Option (cL Unit Int):=aL fun amC ⟨c,b,a⟩=>if decide (a<b) then(if 0≤a then(if a<(c.length:Int) then((f184 (nth dL c a)).bind fun y4=>if y4=true then(bU (some a)) else(amC (c,b,bq (a+1)))) else none) else none) else(some (.brk ()))
def Bs(a0:ZE):ZV:=
 aI (U:=Unit) (Gt (Int.toNat (a0.length:Int)+1) (a0,(a0.length:Int),0)) fun _v1=>some (-1:Int)
def aew:SS:=⟨19,59,[],[],[]⟩
def aex:SS:=⟨19,59,[(0,.val (.slice 48 dL)),(1,.func 184 .nil .nil),tI 7,tI 8],[],[]⟩
def aey:SS:=⟨19,59,[tI 4],[],[]⟩
def Ql:bh:=aF G [.tmp 4] 243 [.val (.slice 48 dL),.func 184 .nil .nil] [] 59 aey [] (.br (u1 Bs))
theorem Qm:hS Ql:=
 cO ⟨[hA 4 0],[(7,aew)],[],[(2,⟨aex,fun u2=>Int.toNat u2.2.1+1⟩)],[],[]⟩ (hq aev hz) aJ Tryz.call243 Tryz.func243
def vq(a0:ZE):Zm:=
 (Bs a0).bind fun y1=>some (decide ((0:Int)≤y1))
def No:SS:=⟨9,49,[(4,vB)],[],[]⟩
def Qn:bh:=aF G [.tmp 4] 183 [.val (.slice 48 dL),.func 184 .nil .nil] [] 49 No [] (.br (u1 vq))
theorem Qo:hS Qn:=
 cO (hR [hA 1 0]) (hq Qm hz) aJ Tryz.call183 Tryz.func183
def f128(a0:dz):Zm:=
 Option.bind (α:=Bool) (if decide ((8:Int)<(a0.1.1.length:Int)) then(some true) else(if decide ((64:Int)<(a0.1.2.1.length:Int)) then(some true) else(if decide ((16:Int)<(a0.1.2.2.1.length:Int)) then(some true) else(if decide ((16:Int)<(a0.1.2.2.2.1.length:Int)) then(some true) else(if decide ((16:Int)<(a0.1.2.2.2.2.1.length:Int)) then(some true) else(some (decide ((8:Int)<(a0.1.2.2.2.2.2.1.length:Int))))))))) fun v1=>if v1=true then(some false) else((vq a0.1.2.2.2.2.2.1).bind fun y2=>some (!y2))
def aez:SS:=⟨48,88,[(2,vB)],[],[]⟩
def aeA:bh:=aF G [.tmp 2] 128 [.val iO] [] 88 aez [] (.br (u1 f128))
theorem aeB:hS aeA:=
 cO (hR [hD 1 42 [],hA 3 0]) (hq Qo hz) aJ Tryz.call128 Tryz.func128
def f132(a0:dz)(a1:gU):Zm:=
 Option.bind (α:=Bool) (if decide ((1:Int)≤a1.2.2.2.2.1) then(if decide (a1.2.2.2.2.1≤(1099511627776:Int)) then(if decide ((0:Int)≤a1.2.2.2.1) then(if decide (a1.2.2.2.1<(a0.1.2.1.length:Int)) then(if 0≤a1.2.2.2.1 then(if a1.2.2.2.1<(a0.1.2.1.length:Int) then(some (decide ((nth aU a0.1.2.1 a1.2.2.2.1).2.2.2.2.1=(1:Int)))) else none) else none) else(some false)) else(some false)) else(some false)) else(some false)) fun v1=>some v1
def aeC:SS:=⟨38,78,[(4,vB)],[],[]⟩
def aeD:bh:=aF G [.tmp 4] 132 [.val iO,.val aU] [] 78 aeC [] (.br (u2 f132))
theorem Yu:hS aeD:=
 cO (hR [hD 1 4 []]) hz aJ Tryz.call132 Tryz.func132
def rF(a0:gU)(a1:dz):Tu:=
 (f132 a1 a0).bind fun y1=>some (!y1,a1)
def Tq:List (Nat×de):=[(0,.var (.aT .func) (.fy 132 iO))]
def aeE:SS:=⟨8,48,[(3,vB)],Tq,[]⟩
def Qp:bh:=aF G [.tmp 3] 190 [.val aU,pP 0] Tq 48 aeE [0] (.br (u2 rF))
theorem Qq:hS Qp:=
 cO (hR [hA 1 0]) (hq Yu hz) aJ Tryz.call190 Tryz.func190
def Gu:Nat→Zw×Int×Ey→Option (cL dz Ey):=aL fun amC ⟨e,d,c,f⟩=>if decide (c<d) then(if 0≤c then(if c<(e.length:Int) then((rF (nth aU e c) f).bind fun⟨a,b⟩=>if a=true then(bU (some (c,b))) else(amC (e,d,bq (c+1),b))) else none) else none) else(some (.brk f))
def Bt(a0:Zw)(a1:dz):Option Ey:=
 aI (U:=dz) (Gu (Int.toNat (a0.length:Int)+1) (a0,(a0.length:Int),0,a1)) fun v1=>some ((-1:Int),v1)
def aeF:SS:=⟨19,59,[],Tq,[]⟩
def aeG:SS:=⟨19,59,[(0,.val (.slice 56 aU)),(1,.func 190 .nil (.cons (pP 0) .nil)),tI 7,tI 8],Tq,[]⟩
def aeH:SS:=⟨19,59,[tI 4],Tq,[]⟩
def Qr:bh:=aF G [.tmp 4] 247 [.val (.slice 56 aU),.func 190 .nil (.cons (pP 0) .nil)] Tq 59 aeH [0] (.br (u2 Bt))
theorem Qs:hS Qr:=
 cO ⟨[hE 4 [cB 0 [(0,0)] []]],[(7,aeF)],[],[(2,⟨aeG,fun u2=>Int.toNat u2.2.1+1⟩)],[],[]⟩ (hq Qq hz) aJ Tryz.call247 Tryz.func247
def Bu(a0:Zw)(a1:dz):Tu:=
 (Bt a0 a1).bind fun⟨a,b⟩=>some (decide ((0:Int)≤a),b)
def aeI:SS:=⟨9,49,[(4,vB)],Tq,[]⟩
def Qt:bh:=aF G [.tmp 4] 189 [.val (.slice 56 aU),.func 190 .nil (.cons (pP 0) .nil)] Tq 49 aeI [0] (.br (u2 Bu))
theorem Qu:hS Qt:=
 cO (hR [hE 1 [cB 0 [(0,0)] []]]) (hq Qs hz) aJ Tryz.call189 Tryz.func189
def vr(a0:Zw)(a1:dz):Zm:=
 (Bu a0 a1).bind fun⟨a,_⟩=>some (!a)
def Qv:bh:=aF G [.tmp 4] 131 [.val (.slice 56 aU),.fy 132 iO] [] 49 No [] (.br (u2 vr))
theorem Qw:hS Qv:=
 cO (hR [hE 1 [cB 0 [(0,19)] []]]) (hq Qu hz) aJ Tryz.call131 Tryz.func131
def Qx:Option (List (Option Nat)):=
 some [none,some 259,some 260,some 261,some 262]
def aeJ:SS:=⟨2,42,[tP 0 16],[(16,.var (.fns 5) (.val (.fns 5)))],[]⟩
def Qz:bh:=aF G [.cell 0 356] 221 [] [] 42 aeJ [] (.br (fun _=>Qx))
theorem QA:hS Qz:=
 cO (hR []) hz aJ Tryz.call221 Tryz.func221
def Bv:Nat→ZM×Int×Int×List (Zi×Bool)→Zs:=aL fun amC ⟨c,b,a,d⟩=>if decide (a<b) then(if 0≤a then(if a<(c.length:Int) then(if(aP .str .bool (nth .str c a) d)=true then(bU (some false)) else(if d.length+1≤aH then(amC (c,b,bq (a+1),aZ .str (nth .str c a) true d)) else none)) else none) else none) else(some (.brk ()))
def f263(a0:ZM):Zm:=
 aI (U:=Unit) (Bv (Int.toNat (a0.length:Int)+1) (a0,(a0.length:Int),0,([]:List (Zi×Bool)))) fun _v1=>some true
def aeK:SS:=⟨21,61,[],[],[]⟩
def aeL:SS:=⟨21,61,[(3,.mp 24),(9,.val (.slice 16 .str)),tI 10,tI 11],[(24,.map .str .bool)],[]⟩
def aeM:SS:=⟨21,61,[(2,vB)],[],[]⟩
def aeN:bh:=aF G [.tmp 2] 263 [.val (.slice 16 .str)] [] 61 aeM [] (.br (u1 f263))
theorem aeO:hS aeN:=
 cO ⟨[],[(9,aeK)],[],[(3,⟨aeL,fun u2=>Int.toNat u2.2.1+1⟩)],[],[]⟩ hz aJ Tryz.call263 Tryz.func263
def f262(a0:dH)(_a1:Int):Zm:=
 Option.bind (α:=Bool) (if decide (a0.2.1=(0:Int)) then(if decide (a0.2.2.1=(bq ((a0.2.2.2.2.2.1.length:Int) -(1:Int)))) then(if decide (a0.2.2.2.2.1=(-1:Int)) then(if decide ((1:Int)≤(a0.2.2.2.2.2.1.length:Int)) then(if decide ((a0.2.2.2.2.2.1.length:Int)≤(16:Int)) then((f263 a0.2.2.2.2.2.1).bind fun y1=>some y1) else(some false)) else(some false)) else(some false)) else(some false)) else(some false)) fun v2=>some v2
def aeP:SS:=⟨39,79,[(4,vB)],[],[]⟩
def aeQ:bh:=aF G [.tmp 4] 262 [.val fH,vI] [] 79 aeP [] (.br (u2 f262))
theorem aeR:hS aeQ:=
 cO (hR [hD 1 4 [cA 0]]) (hq aeO hz) aJ Tryz.call262 Tryz.func262
def f261(a0:dH)(_a1:Int):Zm:=
 Option.bind (α:=Bool) (if decide (a0.2.1=(0:Int)) then(if decide (a0.2.2.1=(4095:Int)) then(if decide (a0.2.2.2.2.1=(-1:Int)) then(some (decide ((a0.2.2.2.2.2.1.length:Int)=(0:Int)))) else(some false)) else(some false)) else(some false)) fun v1=>some v1
def Yw:SS:=⟨24,64,[(4,vB)],[],[]⟩
def aeS:bh:=aF G [.tmp 4] 261 [.val fH,vI] [] 64 Yw [] (.br (u2 f261))
theorem aeT:hS aeS:=
 cO (hR [hD 1 4 []]) hz aJ Tryz.call261 Tryz.func261
def f260(a0:dH)(_a1:Int):Zm:=
 Option.bind (α:=Bool) (if decide (a0.2.1=(0:Int)) then(if decide (a0.2.2.1=(1023:Int)) then(if decide (a0.2.2.2.2.1=(-1:Int)) then(some (decide ((a0.2.2.2.2.2.1.length:Int)=(0:Int)))) else(some false)) else(some false)) else(some false)) fun v1=>some v1
def aeU:bh:=aF G [.tmp 4] 260 [.val fH,vI] [] 64 Yw [] (.br (u2 f260))
theorem aeV:hS aeU:=
 cO (hR [hD 1 4 []]) hz aJ Tryz.call260 Tryz.func260
def f259(a0:dH)(a1:Int):Zm:=
 Option.bind (α:=Bool) (if decide ((0:Int)≤a0.2.1) then(if decide (a0.2.1≤a0.2.2.1) then(if decide (a0.2.2.1≤(1048576:Int)) then(if decide ((-1:Int)≤a0.2.2.2.2.1) then(if decide (a0.2.2.2.2.1<a1) then(some (decide ((a0.2.2.2.2.2.1.length:Int)=(0:Int)))) else(some false)) else(some false)) else(some false)) else(some false)) else(some false)) fun v1=>some v1
def aeW:SS:=⟨37,77,[(4,vB)],[],[]⟩
def aeX:bh:=aF G [.tmp 4] 259 [.val fH,vI] [] 77 aeW [] (.br (u2 f259))
theorem aeY:hS aeX:=
 cO (hR [hD 1 4 []]) hz aJ Tryz.call259 Tryz.func259
def f168(a0:dz)(a1:dH):Zm:=
 aI (U:=dz×dH) (Option.bind (α:=Bool) (if decide (a1.1<(1:Int)) then(some true) else(some (decide ((4:Int)<a1.1)))) fun v2=>if v2=true then(bU (some false)) else(some (.brk (a0,a1)))) fun⟨b,a⟩=>if 0≤a.1 then(if a.1<(5:Int) then(if a.1=(0:Int) then none else(if a.1=(1:Int) then((f259 a (b.1.2.1.length:Int)).bind fun y6=>some y6) else(if a.1=(2:Int) then((f260 a (b.1.2.1.length:Int)).bind fun y5=>some y5) else(if a.1=(3:Int) then((f261 a (b.1.2.1.length:Int)).bind fun y4=>some y4) else(if a.1=(4:Int) then((f262 a (b.1.2.1.length:Int)).bind fun y3=>some y3) else none))))) else none) else none
def aeZ:SS:=⟨23,63,[tP 2 18,tP 3 19],[(18,bV iO),(19,bV fH)],[]⟩
def ae0:SS:=⟨23,63,[(4,vB)],[],[]⟩
def ae1:bh:=aF G [.tmp 4] 168 [.val iO,.val fH] [] 63 ae0 [] (.br (u2 f168))
theorem U5:hS ae1:=
 cO ⟨[hD 1 12 [],hE 3 [cA 0,⟨[1,2,3,4],[],[],[],[]⟩]],[(3,aeZ)],[],[],[],[]⟩ (hq QA (hq aeR (hq aeT (hq aeV (hq aeY hz))))) aJ Tryz.call168 Tryz.func168
def oD:Nat→ZH×Int×Int×Vd×Ey→Option (cL (ZH×Int×Ey) (cL Unit Bool)):=aL fun rec9 ⟨c,d,e,b,a,f⟩=>if decide (a<(4:Int)) then(if 0≤a then(if a<(4:Int) then(Option.bind (α:=Bool) (if decide ((nth (.int .i64) b a)<(0:Int)) then(some true) else(some (decide ((9:Int)<(nth (.int .i64) b a))))) fun v10=>if v10=true then(bU (bU (some false))) else(rec9 (c,d,e,b,bq (a+1),f))) else none) else none) else(some (.brk (c,d,e,f)))
def vu:Nat→ZH×Int×Ey→Zs:=aL fun am5 ⟨g,f,e,h⟩=>if decide (e<f) then(aI (U:=ZH×Int×Ey) (if 0≤e then(if e<(g.length:Int) then((f168 h (nth bP g e).2.1).bind fun y7=>if !y7 then(bU (bU (some false))) else(oD (Int.toNat (4:Int)+1) (g,f,e,(nth bP g e).2.2.1,0,h))) else none) else none) fun⟨a,b,c,d⟩=>am5 (a,b,bq (c+1),d)) else(some (.brk ()))
def f134(a0:dz)(a1:l6):Zm:=
 aI (U:=dz×l6) (Option.bind (α:=Bool) (if decide (a1.2.2.1<(0:Int)) then(some true) else(if decide ((a0.1.1.length:Int)≤a1.2.2.1) then(some true) else(if decide (a1.2.2.2.1<(1:Int)) then(some true) else(if decide ((255:Int)<a1.2.2.2.1) then(some true) else(if decide ((a1.2.2.2.2.1.length:Int)<(1:Int)) then(some true) else(if decide ((12:Int)<(a1.2.2.2.2.1.length:Int)) then(some true) else(if(0:Int)<(a1.2.2.2.2.1.length:Int) then(some (!decide ((nth bP a1.2.2.2.2.1 (0:Int)).2.1.1=(3:Int)))) else none))))))) fun v2=>if v2=true then(bU (some false)) else(some (.brk (a0,a1)))) fun⟨b,a⟩=>aI (U:=Unit) (vu (Int.toNat (a.2.2.2.2.1.length:Int)+1) (a.2.2.2.2.1,(a.2.2.2.2.1.length:Int),0,b)) fun _v3=>some true
def ae2:SS:=⟨77,117,[tP 2 18,tP 3 19],[(18,bV iO),(19,bV bF)],[]⟩
def Yx:SS:=⟨77,117,[tP 2 18,(53,.val (.slice 120 bP)),tI 54,tI 55],[(18,bV iO)],[]⟩
def ae3:SS:=⟨77,117,[],[],[]⟩
def ae4:SS:=⟨77,117,[tP 2 18,(53,.val (.slice 120 bP)),tI 54,tI 55,(65,.val Em),tI 66],[(18,bV iO)],[]⟩
def ae5:SS:=⟨77,117,[(4,vB)],[],[]⟩
def ae6:bh:=aF G [.tmp 4] 134 [.val iO,.val bF] [] 117 ae5 [] (.br (u2 f134))
theorem ae7:hS ae6:=
 cO ⟨[hD 1 51 [],hA 6 0,hD 11 74 []],[(3,ae2),(14,Yx),(15,ae3)],[],[(4,⟨Yx,fun u4=>Int.toNat u4.2.1+1⟩),(9,⟨ae4,fun _=>Int.toNat (4:Int)+1⟩)],[],[]⟩ (hq U5 hz) aJ Tryz.call134 Tryz.func134
def rG(a0:l6)(a1:dz):Tu:=
 (f134 a1 a0).bind fun y1=>some (!y1,a1)
def Tr:List (Nat×de):=[(0,.var (.aT .func) (.fy 134 iO))]
def ae8:SS:=⟨8,48,[(3,vB)],Tr,[]⟩
def QB:bh:=aF G [.tmp 3] 192 [.val bF,pP 0] Tr 48 ae8 [0] (.br (u2 rG))
theorem QC:hS QB:=
 cO (hR [hA 1 0]) (hq ae7 hz) aJ Tryz.call192 Tryz.func192
def Gv:Nat→ZG×Int×Ey→Option (cL dz Ey):=aL fun amC ⟨e,d,c,f⟩=>if decide (c<d) then(if 0≤c then(if c<(e.length:Int) then((rG (nth bF e c) f).bind fun⟨a,b⟩=>if a=true then(bU (some (c,b))) else(amC (e,d,bq (c+1),b))) else none) else none) else(some (.brk f))
def Bw(a0:ZG)(a1:dz):Option Ey:=
 aI (U:=dz) (Gv (Int.toNat (a0.length:Int)+1) (a0,(a0.length:Int),0,a1)) fun v1=>some ((-1:Int),v1)
def ae9:SS:=⟨19,59,[],Tr,[]⟩
def afa:SS:=⟨19,59,[(0,.val (.slice 96 bF)),(1,.func 192 .nil (.cons (pP 0) .nil)),tI 7,tI 8],Tr,[]⟩
def afb:SS:=⟨19,59,[tI 4],Tr,[]⟩
def QD:bh:=aF G [.tmp 4] 248 [.val (.slice 96 bF),.func 192 .nil (.cons (pP 0) .nil)] Tr 59 afb [0] (.br (u2 Bw))
theorem QE:hS QD:=
 cO ⟨[hE 4 [cB 0 [(0,0)] []]],[(7,ae9)],[],[(2,⟨afa,fun u2=>Int.toNat u2.2.1+1⟩)],[],[]⟩ (hq QC hz) aJ Tryz.call248 Tryz.func248
def Bx(a0:ZG)(a1:dz):Tu:=
 (Bw a0 a1).bind fun⟨a,b⟩=>some (decide ((0:Int)≤a),b)
def afc:SS:=⟨9,49,[(4,vB)],Tr,[]⟩
def QF:bh:=aF G [.tmp 4] 191 [.val (.slice 96 bF),.func 192 .nil (.cons (pP 0) .nil)] Tr 49 afc [0] (.br (u2 Bx))
theorem QG:hS QF:=
 cO (hR [hE 1 [cB 0 [(0,0)] []]]) (hq QE hz) aJ Tryz.call191 Tryz.func191
def vw(a0:ZG)(a1:dz):Zm:=
 (Bx a0 a1).bind fun⟨a,_⟩=>some (!a)
def QH:bh:=aF G [.tmp 4] 133 [.val (.slice 96 bF),.fy 134 iO] [] 49 No [] (.br (u2 vw))
theorem QI:hS QH:=
 cO (hR [hE 1 [cB 0 [(0,19)] []]]) (hq QG hz) aJ Tryz.call133 Tryz.func133
def f167(a0:dz)(a1:Int)(a2:Int):Option (Bool×dH):=
 aI (U:=Int×Int×dz×Int×Int×Int×Zi×Int) (Option.bind (α:=Bool) (if decide (a1<(0:Int)) then(some true) else(if decide ((a0.1.2.2.1.length:Int)≤a1) then(some true) else(if decide (a2<(0:Int)) then(some true) else(if 0≤a1 then(if a1<(a0.1.2.2.1.length:Int) then(some (decide ((List.length (nth bF a0.1.2.2.1 a1).2.2.2.2.1:Int)≤a2))) else none) else none)))) fun v2=>if v2=true then(bU (some (false,0,0,0,[],0,([]:ZM),()))) else(some (.brk (a1,a2,a0,0,0,0,[],0)))) fun⟨a,c,b,_,_,_,_,_⟩=>if 0≤a then(if a<(b.1.2.2.1.length:Int) then(if 0≤c then(if c<(List.length (nth bF b.1.2.2.1 a).2.2.2.2.1:Int) then(some (true,(nth bP (nth bF b.1.2.2.1 a).2.2.2.2.1 c).2.1)) else none) else none) else none) else none
def afd:SS:=⟨46,86,[tI 1,tI 2,tP 3 19,tP 6 22],[(19,bV iO),(22,.var fH (.cons vI (.cons vI (.cons vI (.cons (.val .str) (.cons vI (.cons .bn .nil)))))))],[]⟩
def afe:SS:=⟨46,86,[tP 6 22,(7,vB)],[(22,bV fH)],[]⟩
def aff:bh:=aF G [.cell 6 119,.tmp 7] 167 [.val iO,vI,vI] [] 86 afe [] (.br (u3 f167))
theorem Np:hS aff:=
 cO ⟨[hD 1 33 []],[(3,afd)],[],[],[],[]⟩ hz aJ Tryz.call167 Tryz.func167
def f244(a0:fJ)(a1:gU)(a2:Int):Option (Bool×dH):=
 aI (U:=fJ×gU×Int×Int×Int×Zi×Int) (Option.bind (α:=Bool) (if decide (a1.2.2.1<(0:Int)) then(some true) else(some (decide (a2≤a1.2.2.1)))) fun v2=>if v2=true then(bU (some (false,0,0,0,[],0,([]:ZM),()))) else(some (.brk (a0,a1,0,0,0,[],0)))) fun⟨b,a,_,_,_,_,_⟩=>if 0≤a.2.2.1 then(if a.2.2.1<(b.2.1.2.2.1.length:Int) then((f167 b.1 (nth aQ b.2.1.2.2.1 a.2.2.1).2.2.1 a.2.2.2.1).bind fun⟨c,d⟩=>some (c,d)) else none) else none
def afg:SS:=⟨33,73,[tP 3 19,tP 4 20,tP 6 22],[(19,bV mA),(20,bV aU),(22,.var fH (.cons vI (.cons vI (.cons vI (.cons (.val .str) (.cons vI (.cons .bn .nil)))))))],[]⟩
def afh:SS:=⟨33,73,[tP 6 22,(7,vB)],[(22,bV fH)],[]⟩
def afi:bh:=aF G [.cell 6 119,.tmp 7] 244 [.val mA,.val aU,vI] [] 73 afh [] (.br (u3 f244))
theorem U6:hS afi:=
 cO ⟨[hD 1 16 [],hA 3 0],[(3,afg)],[],[],[],[]⟩ (hq Np hz) aJ Tryz.call244 Tryz.func244
def vz:Nat→Zy×Int×Int×fJ→Zs:=aL fun am5 ⟨k,j,i,l⟩=>if decide (i<j) then(if 0≤i then(if i<(k.length:Int) then(aI (U:=Int×Zy×Int×Int×fJ×B1) (Option.bind (α:=Bool) (if decide ((nth aQ k i).2.2.1<(0:Int)) then(some true) else(some (decide ((l.1.1.2.2.1.length:Int)≤(nth aQ k i).2.2.1)))) fun v7=>if v7=true then(bU (bU (some false))) else(some (.brk (i,k,j,i,l,nth aQ k i)))) fun⟨f,b,c,d,e,a⟩=>if decide (a.2.2.2.1.2.2.1=(-1:Int)) then(am5 (b,c,bq (d+1),e)) else((f244 e a.2.2.2.1 f).bind fun⟨g,h⟩=>Option.bind (α:=Bool) (if !g then(some true) else(some (!decide (h.1=(3:Int))))) fun v9=>if v9=true then(bU (some false)) else(am5 (b,c,bq (d+1),e)))) else none) else none) else(some (.brk ()))
def f185(a0:fJ):Zm:=
 aI (U:=fJ) (Option.bind (α:=Bool) (if decide ((a0.2.1.2.2.1.length:Int)<(1:Int)) then(some true) else(some (decide ((3:Int)<(a0.2.1.2.2.1.length:Int))))) fun v2=>if v2=true then(bU (some false)) else(some (.brk a0))) fun v1=>aI (U:=Unit) (vz (Int.toNat (v1.2.1.2.2.1.length:Int)+1) (v1.2.1.2.2.1,(v1.2.1.2.2.1.length:Int),0,v1)) fun _v3=>some true
def afj:SS:=⟨61,101,[tP 1 17],[(17,bV mA)],[]⟩
def afk:SS:=⟨61,101,[tP 1 17,tI 3,tP 4 20,(21,.val (.slice 96 aQ)),tI 22,tI 23],[(17,bV mA),(20,bV aQ)],[]⟩
def afl:SS:=⟨61,101,[],[],[]⟩
def afm:SS:=⟨61,101,[tP 1 17,(21,.val (.slice 96 aQ)),tI 22,tI 23],[(17,bV mA)],[]⟩
def afn:SS:=⟨61,101,[(2,vB)],[],[]⟩
def afo:bh:=aF G [.tmp 2] 185 [.val mA] [] 101 afn [] (.br (u1 f185))
theorem afp:hS afo:=
 cO ⟨[hD 1 18 [],hD 6 40 [],hA 9 0,hD 10 59 []],[(3,afj),(8,afk),(13,afl)],[],[(4,⟨afm,fun u4=>Int.toNat u4.2.1+1⟩)],[],[]⟩ (hq U6 hz) aJ Tryz.call185 Tryz.func185
def f245(a0:gU):Zm:=
 Option.bind (α:=Bool) (if decide (a0.2.2.1=(-1:Int)) then(if decide ((0:Int)≤a0.2.2.2.2.1) then(some (decide (a0.2.2.2.2.1≤(1048576:Int)))) else(some false)) else(some false)) fun v1=>some v1
def afq:SS:=⟨16,56,[(2,vB)],[],[]⟩
def afr:bh:=aF G [.tmp 2] 245 [.val aU] [] 56 afq [] (.br (u1 f245))
theorem Yy:hS afr:=
 cO (hR [hD 1 2 []]) hz aJ Tryz.call245 Tryz.func245
def f246(a0:dz)(a1:dH)(a2:dH):Zm:=
 aI (U:=dz×dH×dH) (if !decide (a1.1=a2.1) then(bU (some false)) else(if decide (a1.1=(4:Int)) then((f145 a1.2.2.2.2.2.1 a2.2.2.2.2.2.1).bind fun y2=>bU (some y2)) else(Option.bind (α:=Bool) (if !decide (a1.1=(1:Int)) then(some true) else(if decide (a1.2.2.2.2.1=(-1:Int)) then(some true) else(some (decide (a2.2.2.2.2.1=(-1:Int)))))) fun v3=>if v3=true then(bU (some (decide (a1.2.2.2.2.1=a2.2.2.2.2.1)))) else(some (.brk (a0,a1,a2)))))) fun⟨b,a,c⟩=>if 0≤a.2.2.2.2.1 then(if a.2.2.2.2.1<(b.1.2.1.length:Int) then(if 0≤c.2.2.2.2.1 then(if c.2.2.2.2.1<(b.1.2.1.length:Int) then(some (decide ((nth aU b.1.2.1 a.2.2.2.2.1).2.2.2.1=(nth aU b.1.2.1 c.2.2.2.2.1).2.2.2.1))) else none) else none) else none) else none
def afs:SS:=⟨58,98,[tP 3 19,tP 4 20,tP 5 21],[(19,bV iO),(20,bV fH),(21,bV fH)],[]⟩
def aft:SS:=⟨58,98,[(6,vB)],[],[]⟩
def afu:bh:=aF G [.tmp 6] 246 [.val iO,.val fH,.val fH] [] 98 aft [] (.br (u3 f246))
theorem afv:hS afu:=
 cO ⟨[hA 4 0,hD 5 22 []],[(7,afs)],[],[],[],[]⟩ (hq Lk hz) aJ Tryz.call246 Tryz.func246
def oE:Nat→Int×Int×fJ×rP×Zw×List dH→Option (cL (fJ×rP×List dH) Bool):=aL fun am5 ⟨d,c,f,h,e,g⟩=>if decide (c<d) then(if 0≤c then(if c<(e.length:Int) then((f244 f (nth aU e c) (f.2.1.2.2.1.length:Int)).bind fun⟨a,b⟩=>Option.bind (α:=Bool) (if !a then((f245 (nth aU e c)).bind fun y7=>some (!y7)) else(some false)) fun v8=>if v8=true then(bU (some false)) else(if a=true then(if(List.length g+List.length [b])*72≤aH then(am5 (d,bq (c+1),f,h,e,g++[b])) else none) else(am5 (d,bq (c+1),f,h,e,g)))) else none) else none) else(some (.brk (f,h,g)))
def nG:Nat→Int×Int×rP×List dH→Zs:=aL fun rec14 ⟨b,a,d,c⟩=>if decide (a<b) then(if 0≤a then(if a<(c.length:Int) then(Option.bind (α:=Bool) (if decide ((nth fH c a).1=(1:Int)) then(some true) else(some (decide ((nth fH c a).1=(2:Int))))) fun v15=>Option.bind (α:=Bool) (if decide (d.1=(2:Int)) then(some (!v15)) else(if decide (d.1=(3:Int)) then(some (!v15)) else(some false))) fun v16=>if v16=true then(bU (some false)) else(rec14 (b,bq (a+1),d,c))) else none) else none) else(some (.brk ()))
def f186(a0:fJ)(a1:rP):Zm:=
 aI (U:=fJ×rP) (Option.bind (α:=Bool) (if decide (a1.1<(1:Int)) then(some true) else(some (decide ((4:Int)<a1.1)))) fun v2=>if v2=true then(bU (some false)) else(some (.brk (a0,a1)))) fun⟨b,a⟩=>aI (U:=fJ×rP×List dH) (oE (Int.toNat (List.length [a.2.1,a.2.2.1]:Int)+1) ((List.length [a.2.1,a.2.2.1]:Int),0,b,a,[a.2.1,a.2.2.1],([]:List dH))) fun⟨d,e,c⟩=>aI (U:=rP×List dH) (Option.bind (α:=Bool) (if decide ((c.length:Int)=(0:Int)) then(some true) else(if decide ((c.length:Int)=(2:Int)) then(if(0:Int)<(c.length:Int) then(if(1:Int)<(c.length:Int) then((f246 d.1 (nth fH c (0:Int)) (nth fH c (1:Int))).bind fun y10=>some (!y10)) else none) else none) else(some false))) fun v11=>if v11=true then(bU (some false)) else(some (.brk (e,c)))) fun⟨g,f⟩=>aI (U:=Unit) (nG (Int.toNat (f.length:Int)+1) ((f.length:Int),0,g,f)) fun _v12=>some true
def afw:SS:=⟨101,141,[tP 2 18,tP 3 19],[(18,bV mA),(19,bV aV)],[]⟩
def afx:SS:=⟨101,141,[tP 2 18,tP 3 19,(5,.own 118)],[(18,bV mA),(19,bV aV),(118,.row 119 72 fH)],[]⟩
def Yz:List (Nat×de):=[(19,bV aV),(118,.row 119 72 fH)]
def afy:SS:=⟨101,141,[tP 3 19,(5,.own 118)],Yz,[]⟩
def afz:SS:=⟨101,141,[],[],[]⟩
def afA:SS:=⟨101,141,[tP 2 18,tP 3 19,(5,.own 117),(25,.own 41),tI 26,tI 27],[(18,bV mA),(19,bV aV),(41,.row 128 56 aU),(117,.row 119 72 fH)],[]⟩
def afB:SS:=⟨101,141,[tP 3 19,(74,.own 118),tI 75,tI 76],Yz,[]⟩
def afC:SS:=⟨101,141,[(4,vB)],[],[]⟩
def afD:bh:=aF G [.tmp 4] 186 [.val mA,.val aV] [] 141 afC [] (.br (u2 f186))
theorem afE:hS afD:=
 cO ⟨[hD 1 20 [],hA 7 0,hD 8 47 [cA 1],hD 13 73 [cA 2],hD 18 12 [],hD 19 99 []],[(3,afw),(13,afx),(15,afy),(22,afz)],[],[(5,⟨afA,fun u4=>Int.toNat u4.1+1⟩),(16,⟨afB,fun I5=>Int.toNat I5.1+1⟩)],[],[]⟩ (hq U6 (hq Yy (hq afv hz))) aJ Tryz.call186 Tryz.func186
def f187(a0:fJ)(a1:dH)(a2:gU):Zm:=
 (f245 a2).bind fun y1=>if y1=true then(Option.bind (α:=Bool) (if decide (a1.2.1≤a2.2.2.2.2.1) then(some (decide (a2.2.2.2.2.1≤a1.2.2.1))) else(some false)) fun v2=>some v2) else((f244 a0 a2 (a0.2.1.2.2.1.length:Int)).bind fun⟨a,b⟩=>Option.bind (α:=Bool) (if a=true then(if decide (b.1=a1.1) then(if decide (b.2.2.2.2.1=a1.2.2.2.2.1) then((f145 b.2.2.2.2.2.1 a1.2.2.2.2.2.1).bind fun y4=>if y4=true then(if decide (a1.2.1≤b.2.1) then(if decide (b.2.1≤a1.2.2.1) then(if decide (a1.2.1≤b.2.2.1) then(some (decide (b.2.2.1≤a1.2.2.1))) else(some false)) else(some false)) else(some false)) else(some false)) else(some false)) else(some false)) else(some false)) fun v5=>some v5)
def afF:SS:=⟨83,123,[(6,vB)],[],[]⟩
def afG:bh:=aF G [.tmp 6] 187 [.val mA,.val fH,.val aU] [] 123 afF [] (.br (u3 f187))
theorem afH:hS afG:=
 cO (hR [hA 1 0,hD 2 6 [],hA 3 1,hD 4 6 [cA 2]]) (hq Yy (hq U6 (hq Lk hz))) aJ Tryz.call187 Tryz.func187
def By:Nat→Ze×Int×Int×Zu→Zs:=aL fun amC ⟨c,b,a,d⟩=>if decide (a<b) then(if 0≤a then(if a<(c.length:Int) then(if(aP (.int .i64) .bool (nth (.int .i64) c a) d)=true then(bU (some false)) else(if d.length+1≤aH then(amC (c,b,bq (a+1),aZ (.int .i64) (nth (.int .i64) c a) true d)) else none)) else none) else none) else(some (.brk ()))
def f188(a0:Ze):Zm:=
 aI (U:=Unit) (By (Int.toNat (a0.length:Int)+1) (a0,(a0.length:Int),0,([]:Zu))) fun _v1=>some true
def afI:SS:=⟨21,61,[],[],[]⟩
def afJ:SS:=⟨21,61,[(3,.mp 24),(9,.val (.slice 8 (.int .i64))),tI 10,tI 11],[(24,.map (.int .i64) .bool)],[]⟩
def afK:SS:=⟨21,61,[(2,vB)],[],[]⟩
def afL:bh:=aF G [.tmp 2] 188 [.val (.slice 8 (.int .i64))] [] 61 afK [] (.br (u1 f188))
theorem afM:hS afL:=
 cO ⟨[],[(9,afI)],[],[(3,⟨afJ,fun u2=>Int.toNat u2.2.1+1⟩)],[],[]⟩ hz aJ Tryz.call188 Tryz.func188
def rH:Nat→ZB×Int×Int×fJ→Option (cL fJ Bool):=aL fun rec6 ⟨c,b,a,d⟩=>if decide (a<b) then(if 0≤a then(if a<(c.length:Int) then((f186 d (nth aV c a)).bind fun y7=>if !y7 then(bU (some false)) else(rec6 (c,b,bq (a+1),d))) else none) else none) else(some (.brk d))
def lf:Nat→Int×ZC×Int×Int×fJ×Ze→Option (cL Ze Bool):=aL fun rec12 ⟨g,e,d,c,f,h⟩=>if decide (c<d) then(if 0≤c then(if c<(e.length:Int) then((f167 f.1 g (nth bu e c).2.1).bind fun⟨a,b⟩=>Option.bind (α:=Bool) (if !a then(some true) else(if decide ((nth bu e c).2.1=(0:Int)) then(some true) else((f187 f b (nth bu e c).2.2.1).bind fun y14=>some (!y14)))) fun v15=>if v15=true then(bU (some false)) else(if(List.length h+List.length [(nth bu e c).2.1])*8≤aH then(rec12 (g,e,d,bq (c+1),f,h++[(nth bu e c).2.1])) else none)) else none) else none) else(some (.brk h))
def f130(a0:fJ):Zm:=
 aI (U:=fJ) (Option.bind (α:=Bool) ((f185 a0).bind fun y2=>if !y2 then(some true) else(some (decide ((8:Int)<(a0.2.1.2.2.2.1.length:Int))))) fun v3=>if v3=true then(bU (some false)) else(some (.brk a0))) fun v1=>aI (U:=fJ) (rH (Int.toNat (v1.2.1.2.2.2.1.length:Int)+1) (v1.2.1.2.2.2.1,(v1.2.1.2.2.2.1.length:Int),0,v1)) fun v4=>aI (U:=Int×fJ) (Option.bind (α:=Bool) (if decide (v4.2.1.2.1<(0:Int)) then(some true) else(if decide ((v4.1.1.2.2.1.length:Int)≤v4.2.1.2.1) then(some true) else(if 0≤v4.2.1.2.1 then(if v4.2.1.2.1<(v4.1.1.2.2.1.length:Int) then(some (!decide ((v4.2.1.2.2.2.2.1.length:Int)=(bq ((List.length (nth bF v4.1.1.2.2.1 v4.2.1.2.1).2.2.2.2.1:Int) -(1:Int)))))) else none) else none))) fun v9=>if v9=true then(bU (some false)) else(some (.brk (v4.2.1.2.1,v4)))) fun⟨b,a⟩=>aI (U:=Ze) (lf (Int.toNat (a.2.1.2.2.2.2.1.length:Int)+1) (b,a.2.1.2.2.2.2.1,(a.2.1.2.2.2.2.1.length:Int),0,a,([]:Ze))) fun v10=>(f188 v10).bind fun y16=>some y16
def YA:SS:=⟨105,145,[tP 1 17],[(17,bV mA)],[]⟩
def afN:SS:=⟨105,145,[tP 1 17,tI 5],[(17,bV mA)],[]⟩
def afO:SS:=⟨105,145,[(6,.own 122)],[(122,.row 3 8 (.int .i64))],[]⟩
def afP:SS:=⟨105,145,[tP 1 17,(23,.val (.slice 120 aV)),tI 24,tI 25],[(17,bV mA)],[]⟩
def afQ:SS:=⟨105,145,[tP 1 17,tI 5,(6,.own 121),(67,.val (.slice 80 bu)),tI 68,tI 69],[(17,bV mA),(121,.row 3 8 (.int .i64))],[]⟩
def afR:SS:=⟨105,145,[(2,vB)],[],[]⟩
def afS:bh:=aF G [.tmp 2] 130 [.val mA] [] 145 afR [] (.br (u1 f130))
theorem afT:hS afS:=
 cO ⟨[hD 1 20 [cA 0],hA 6 1,hD 10 64 [],hA 16 2,hD 17 96 [cA 3],hA 21 4],[(3,YA),(9,YA),(12,afN),(21,afO)],[],[(4,⟨afP,fun u5=>Int.toNat u5.2.1+1⟩),(14,⟨afQ,fun Nr=>Int.toNat Nr.2.2.1+1⟩)],[],[]⟩ (hq afp (hq afE (hq Np (hq afH (hq afM hz))))) aJ Tryz.call130 Tryz.func130
def Bz(a0:dt)(a1:dz):Zm:=
 (f130 (a1,a0,())).bind fun y1=>some y1
def afU:SS:=⟨8,48,[(3,vB)],[],[]⟩
def QJ:bh:=aF G [.tmp 3] 129 [.val bG,.cd iO] [] 48 afU [] (.br (u2 Bz))
theorem QK:hS QJ:=
 cO (hR [hA 1 0]) (hq afT hz) aJ Tryz.call129 Tryz.func129
def rI(a0:dt)(a1:dz):Tu:=
 (Bz a0 a1).bind fun y1=>some (!y1,a1)
def Ts:List (Nat×de):=[(0,.var (.aT .func) (.func 129 .nil (.cons (.cd iO) .nil)))]
def afV:SS:=⟨8,48,[(3,vB)],Ts,[]⟩
def QL:bh:=aF G [.tmp 3] 194 [.val bG,pP 0] Ts 48 afV [0] (.br (u2 rI))
theorem QM:hS QL:=
 cO (hR [hA 1 0]) (hq QK hz) aJ Tryz.call194 Tryz.func194
def Gw:Nat→Zo×Int×Ey→Option (cL dz Ey):=aL fun amC ⟨e,d,c,f⟩=>if decide (c<d) then(if 0≤c then(if c<(e.length:Int) then((rI (nth bG e c) f).bind fun⟨a,b⟩=>if a=true then(bU (some (c,b))) else(amC (e,d,bq (c+1),b))) else none) else none) else(some (.brk f))
def BA(a0:Zo)(a1:dz):Option Ey:=
 aI (U:=dz) (Gw (Int.toNat (a0.length:Int)+1) (a0,(a0.length:Int),0,a1)) fun v1=>some ((-1:Int),v1)
def afW:SS:=⟨19,59,[],Ts,[]⟩
def afX:SS:=⟨19,59,[(0,.val (.slice 96 bG)),(1,.func 194 .nil (.cons (pP 0) .nil)),tI 7,tI 8],Ts,[]⟩
def afY:SS:=⟨19,59,[tI 4],Ts,[]⟩
def QN:bh:=aF G [.tmp 4] 249 [.val (.slice 96 bG),.func 194 .nil (.cons (pP 0) .nil)] Ts 59 afY [0] (.br (u2 BA))
theorem QO:hS QN:=
 cO ⟨[hE 4 [cB 0 [(0,0)] []]],[(7,afW)],[],[(2,⟨afX,fun u2=>Int.toNat u2.2.1+1⟩)],[],[]⟩ (hq QM hz) aJ Tryz.call249 Tryz.func249
def BB(a0:Zo)(a1:dz):Tu:=
 (BA a0 a1).bind fun⟨a,b⟩=>some (decide ((0:Int)≤a),b)
def afZ:SS:=⟨9,49,[(4,vB)],Ts,[]⟩
def QP:bh:=aF G [.tmp 4] 193 [.val (.slice 96 bG),.func 194 .nil (.cons (pP 0) .nil)] Ts 49 afZ [0] (.br (u2 BB))
theorem QQ:hS QP:=
 cO (hR [hE 1 [cB 0 [(0,0)] []]]) (hq QO hz) aJ Tryz.call193 Tryz.func193
def vA(a0:Zo)(a1:dz):Zm:=
 (BB a0 a1).bind fun⟨a,_⟩=>some (!a)
def QR:bh:=aF G [.tmp 4] 135 [.val (.slice 96 bG),.func 129 .nil (.cons (.cd iO) .nil)] [] 49 No [] (.br (u2 vA))
theorem QS:hS QR:=
 cO (hR [hE 1 [cB 0 [(0,19)] []]]) (hq QQ hz) aJ Tryz.call135 Tryz.func135
def oF:Nat→List pZ×Int×Int×dz×oP→Option (cL oP Bool):=aL fun amC ⟨d,c,b,e,f⟩=>if decide (b<c) then(if 0≤b then(if b<(d.length:Int) then((f167 e (nth fe d b).2.2.1 (nth fe d b).2.2.2.1).bind fun⟨a,_⟩=>if !a then(bU (some false)) else(amC (d,c,bq (b+1),e,f))) else none) else none) else(some (.brk f))
def f137(a0:dz)(a1:oP):Zm:=
 aI (U:=oP) (oF (Int.toNat (a1.2.1.length:Int)+1) (a1.2.1,(a1.2.1.length:Int),0,a0,a1)) fun v1=>Option.bind (α:=Bool) (if decide ((0:Int)≤v1.2.2.1) then(some (decide (v1.2.2.1≤(64:Int)))) else(some false)) fun v5=>some v5
def af5:SS:=⟨36,76,[tP 3 19],[(19,bV dL)],[]⟩
def af6:SS:=⟨36,76,[tP 2 18,tP 3 19,(10,.val (.slice 48 fe)),tI 11,tI 12],[(18,bV iO),(19,bV dL)],[]⟩
def af7:SS:=⟨36,76,[(4,vB)],[],[]⟩
def af8:bh:=aF G [.tmp 4] 137 [.val iO,.val dL] [] 76 af7 [] (.br (u2 f137))
theorem af9:hS af8:=
 cO ⟨[hA 4 0,hD 8 4 []],[(8,af5)],[],[(2,⟨af6,fun u2=>Int.toNat u2.2.1+1⟩)],[],[]⟩ (hq Np hz) aJ Tryz.call137 Tryz.func137
def rJ(a0:oP)(a1:dz):Tu:=
 (f137 a1 a0).bind fun y1=>some (!y1,a1)
def Tt:List (Nat×de):=[(0,.var (.aT .func) (.fy 137 iO))]
def aga:SS:=⟨8,48,[(3,vB)],Tt,[]⟩
def QT:bh:=aF G [.tmp 3] 195 [.val dL,pP 0] Tt 48 aga [0] (.br (u2 rJ))
theorem QU:hS QT:=
 cO (hR [hA 1 0]) (hq af9 hz) aJ Tryz.call195 Tryz.func195
def Gx:Nat→ZE×Int×Ey→Option (cL dz Ey):=aL fun amC ⟨e,d,c,f⟩=>if decide (c<d) then(if 0≤c then(if c<(e.length:Int) then((rJ (nth dL e c) f).bind fun⟨a,b⟩=>if a=true then(bU (some (c,b))) else(amC (e,d,bq (c+1),b))) else none) else none) else(some (.brk f))
def BC(a0:ZE)(a1:dz):Option Ey:=
 aI (U:=dz) (Gx (Int.toNat (a0.length:Int)+1) (a0,(a0.length:Int),0,a1)) fun v1=>some ((-1:Int),v1)
def agb:SS:=⟨19,59,[],Tt,[]⟩
def agc:SS:=⟨19,59,[(0,.val (.slice 48 dL)),(1,.func 195 .nil (.cons (pP 0) .nil)),tI 7,tI 8],Tt,[]⟩
def agd:SS:=⟨19,59,[tI 4],Tt,[]⟩
def QV:bh:=aF G [.tmp 4] 243 [.val (.slice 48 dL),.func 195 .nil (.cons (pP 0) .nil)] Tt 59 agd [0] (.br (u2 BC))
theorem QW:hS QV:=
 cO ⟨[hE 4 [cB 0 [(0,0)] []]],[(7,agb)],[],[(2,⟨agc,fun u2=>Int.toNat u2.2.1+1⟩)],[],[]⟩ (hq QU hz) aJ Tryz.call243 Tryz.func243
def BD(a0:ZE)(a1:dz):Tu:=
 (BC a0 a1).bind fun⟨a,b⟩=>some (decide ((0:Int)≤a),b)
def age:SS:=⟨9,49,[(4,vB)],Tt,[]⟩
def QX:bh:=aF G [.tmp 4] 183 [.val (.slice 48 dL),.func 195 .nil (.cons (pP 0) .nil)] Tt 49 age [0] (.br (u2 BD))
theorem QY:hS QX:=
 cO (hR [hE 1 [cB 0 [(0,0)] []]]) (hq QW hz) aJ Tryz.call183 Tryz.func183
def vC(a0:ZE)(a1:dz):Zm:=
 (BD a0 a1).bind fun⟨a,_⟩=>some (!a)
def QZ:bh:=aF G [.tmp 4] 136 [.val (.slice 48 dL),.fy 137 iO] [] 49 No [] (.br (u2 vC))
theorem Q2:hS QZ:=
 cO (hR [hE 1 [cB 0 [(0,19)] []]]) (hq QY hz) aJ Tryz.call136 Tryz.func136
def f100(a0:cu):ZV:=
 (f128 (a0,())).bind fun y1=>if !y1 then(some (2:Int)) else(Option.bind (α:=Bool) ((vr a0.2.1 (a0,())).bind fun y2=>if !y2 then(some true) else((vw a0.2.2.1 (a0,())).bind fun y3=>if !y3 then(some true) else((vA a0.2.2.2.1 (a0,())).bind fun y4=>if !y4 then(some true) else((vC a0.2.2.2.2.2.1 (a0,())).bind fun y5=>some (!y5))))) fun v6=>if v6=true then(some (120:Int)) else(some (0:Int)))
def agf:SS:=⟨40,80,[tI 2],[],[]⟩
def agh:bh:=aF G [.tmp 2] 100 [.val iN] [] 80 agf [] (.br (u1 f100))
theorem YB:hS agh:=
 cO (hR [hA 2 0,hD 5 39 [cA 1,cA 2,cA 3,cA 4]]) (hq aeB (hq Qw (hq QI (hq QS (hq Q2 hz))))) aJ Tryz.call100 Tryz.func100
def f250(a0:Int)(a1:Int):Zm:=
 if 0≤a1 then(some (decide ((iD .and .u64 (Int.fdiv a0 (2^(min (Int.toNat a1) 64))) (1:Int))=(1:Int)))) else none
def agi:SS:=⟨10,50,[(4,vB)],[],[]⟩
def agj:bh:=aF G [.tmp 4] 250 [.val (.int .u64),vI] [] 50 agi [] (.br (u2 f250))
theorem agk:hS agj:=
 cO (hR []) hz aJ Tryz.call250 Tryz.func250
def oG:Nat→Int×Int×Ze×Int×Int×xM→Option (cL (Int×Int×xM) Bool):=aL fun amC ⟨d,e,c,b,a,f⟩=>if decide (a<b) then(if 0≤a then(if a<(c.length:Int) then(Option.bind (α:=Bool) (if decide ((nth (.int .i64) c a)<(0:Int)) then(some true) else(if decide (d≤(nth (.int .i64) c a)) then(some true) else((f250 e (nth (.int .i64) c a)).bind fun y4=>some y4))) fun v5=>if v5=true then(bU (some false)) else(if 0≤(nth (.int .i64) c a) then(amC (d,iD .or .u64 e (IntKind.u64.wrap ((1:Int)*2^(min (Int.toNat (nth (.int .i64) c a)) 64))),c,b,bq (a+1),f)) else none)) else none) else none) else(some (.brk (d,e,f)))
def f196(a0:xM)(a1:Int):Zm:=
 aI (U:=Int×Int×xM) (oG (Int.toNat (a0.2.2.1.length:Int)+1) (a1,0,a0.2.2.1,(a0.2.2.1.length:Int),0,a0)) fun⟨c,a,b⟩=>Option.bind (α:=Bool) (if !decide (a=(0:Int)) then(if decide ((0:Int)≤b.2.2.2.1) then(if decide (b.2.2.2.1<c) then((f250 a b.2.2.2.1).bind fun y6=>some (!y6)) else(some false)) else(some false)) else(some false)) fun v7=>some v7
def agl:SS:=⟨52,92,[tI 1,tP 2 18,(5,.val (.int .u64))],[(18,bV fC)],[]⟩
def agm:SS:=⟨52,92,[tI 1,tP 2 18,(5,.val (.int .u64)),(9,.val (.slice 8 (.int .i64))),tI 10,tI 11],[(18,bV fC)],[]⟩
def agn:SS:=⟨52,92,[(4,vB)],[],[]⟩
def ago:bh:=aF G [.tmp 4] 196 [.val fC,vI] [] 92 agn [] (.br (u2 f196))
theorem agp:hS ago:=
 cO ⟨[hD 5 26 [cA 0],hD 9 4 [cA 0]],[(9,agl)],[],[(3,⟨agm,fun u2=>Int.toNat u2.2.2.2.1+1⟩)],[],[]⟩ (hq agk hz) aJ Tryz.call196 Tryz.func196
def rK:Nat→GH×Int×Int×l6→Option (cL Unit Int):=aL fun am5 ⟨c,b,a,d⟩=>if decide (a<b) then(if 0≤a then(if a<(c.length:Int) then((f196 (nth fC c a) (d.2.2.2.2.1.length:Int)).bind fun y6=>if !y6 then(bU (some (130:Int))) else(am5 (c,b,bq (a+1),d))) else none) else none) else(some (.brk ()))
def f138(a0:l6):ZV:=
 aI (U:=l6) (Option.bind (α:=Bool) (if decide ((a0.2.2.2.2.1.length:Int)<(1:Int)) then(some true) else(if decide ((12:Int)<(a0.2.2.2.2.1.length:Int)) then(some true) else(some (decide ((12:Int)<(a0.2.2.2.2.2.1.length:Int)))))) fun v2=>if v2=true then(bU (some (130:Int))) else(some (.brk a0))) fun v1=>aI (U:=Unit) (rK (Int.toNat (v1.2.2.2.2.2.1.length:Int)+1) (v1.2.2.2.2.2.1,(v1.2.2.2.2.2.1.length:Int),0,v1)) fun _v3=>some (0:Int)
def agq:SS:=⟨35,75,[tP 1 17],[(17,bV bF)],[]⟩
def agr:SS:=⟨35,75,[],[],[]⟩
def ags:SS:=⟨35,75,[tP 1 17,(22,.val (.slice 72 fC)),tI 23,tI 24],[(17,bV bF)],[]⟩
def agt:SS:=⟨35,75,[tI 2],[],[]⟩
def agu:bh:=aF G [.tmp 2] 138 [.val bF] [] 75 agt [] (.br (u1 f138))
theorem agv:hS agu:=
 cO ⟨[hD 1 20 [],hA 6 0],[(3,agq),(9,agr)],[],[(4,⟨ags,fun u4=>Int.toNat u4.2.1+1⟩)],[],[]⟩ (hq agp hz) aJ Tryz.call138 Tryz.func138
def BE:Nat→ZG×yq→Option (cL Unit Int):=aL fun amC ⟨c,b,a⟩=>if decide (a<b) then(if 0≤a then(if a<(c.length:Int) then((f138 (nth bF c a)).bind fun y4=>if !decide (y4=(0:Int)) then(bU (some y4)) else(amC (c,b,bq (a+1)))) else none) else none) else(some (.brk ()))
def f101(a0:cu):ZV:=
 aI (U:=Unit) (BE (Int.toNat (a0.2.2.1.length:Int)+1) (a0.2.2.1,(a0.2.2.1.length:Int),0)) fun _v1=>some (0:Int)
def agw:SS:=⟨19,59,[],[],[]⟩
def agx:SS:=⟨19,59,[(7,.val (.slice 96 bF)),tI 8,tI 9],[],[]⟩
def agy:SS:=⟨19,59,[tI 2],[],[]⟩
def agz:bh:=aF G [.tmp 2] 101 [.val iN] [] 59 agy [] (.br (u1 f101))
theorem agA:hS agz:=
 cO ⟨[hA 4 0],[(8,agw)],[],[(2,⟨agx,fun u2=>Int.toNat u2.2.1+1⟩)],[],[]⟩ (hq agv hz) aJ Tryz.call101 Tryz.func101
def rL(a0:Int)(a1:Int)(a2:ZO):Option (Bool×ZO):=
 Option.bind (α:=Bool) (if decide ((0:Int)≤a1) then(some (decide (a1<a0))) else(some false)) fun v1=>some (v1,a2)
def YD:List (Nat×de):=[(0,.pmap (.int .i64) (.map (.int .i64) .bool) 0)]
def agB:SS:=⟨13,53,[(4,vB)],YD,[]⟩
def Q3:bh:=aF G [.tmp 4] 199 [.cons vI (.cons (.mp 0) .nil),vI] YD 53 agB [0] (.br (u3 rL))
theorem Q4:hS Q3:=
 cO (hR [hD 1 4 []]) hz aJ Tryz.call199 Tryz.func199
def lg:Nat→Zo×Int×Int×Zy×Int×Int×Int×dt×ZO→Option (cL (Zo×Int×Int×Int×ZO) (cL (Int×ZO) (Int×dN))):=aL fun rec8 ⟨i,j,k,e,d,c,f,h,g⟩=>if decide (c<d) then(if 0≤c then(if c<(e.length:Int) then((rL f (nth aQ e c).2.2.1 g).bind fun⟨a,b⟩=>if !a then(bU (bU (some (140,0,(none:Option ZO),())))) else(if bT (.int .i64) h.2.1 b=true then(if bl (.int .i64) h.2.1 h.2.1=true then(if List.length (aX (aP (.int .i64) (.map (.int .i64) .bool) h.2.1 b))+1≤aH then(rec8 (i,j,k,e,d,bq (c+1),f,h,aZ (.int .i64) h.2.1 (some (aZ (.int .i64) (nth aQ e c).2.2.1 true (aX (aP (.int .i64) (.map (.int .i64) .bool) h.2.1 b)))) b)) else none) else none) else none)) else none) else none) else(some (.brk (i,j,k,f,g)))
def oH:Nat→Zo×Int×Int×Int×ZO→Option (cL (Int×ZO) (Int×dN)):=aL fun amC ⟨p,o,n,q,r⟩=>if decide (n<o) then(aI (U:=Zo×Int×Int×Int×ZO) (if 0≤n then(if n<(p.length:Int) then((rL q (nth bG p n).2.1 r).bind fun⟨a,b⟩=>if !a then(bU (bU (some (140,0,(none:Option ZO),())))) else(aI (U:=Zo×Int×Int×Int×dt×ZO) (if !(bT (.int .i64) (nth bG p n).2.1 b) then(if bT (.int .i64) (nth bG p n).2.1 b=false then(if bl (.int .i64) (nth bG p n).2.1 (nth bG p n).2.1=true then(if b.length+1≤aH then(some (.brk (p,o,n,q,nth bG p n,aZ (.int .i64) (nth bG p n).2.1 (some ([]:Zu)) (aZ (.int .i64) (nth bG p n).2.1 (Ty.aD (.map (.int .i64) .bool)) b)))) else none) else none) else none) else(some (.brk (p,o,n,q,nth bG p n,b)))) fun⟨d,e,f,g,c,h⟩=>lg (Int.toNat (c.2.2.1.length:Int)+1) (d,e,f,c.2.2.1,(c.2.2.1.length:Int),0,g,c,h))) else none) else none) fun⟨i,j,k,l,m⟩=>amC (i,j,bq (k+1),l,m)) else(some (.brk (q,r)))
def f142(a0:cu):Option (Int×dN):=
 aI (U:=Int×ZO) (oH (Int.toNat (a0.2.2.2.1.length:Int)+1) (a0.2.2.2.1,(a0.2.2.2.1.length:Int),0,(a0.2.2.1.length:Int),([]:ZO))) fun⟨a,b⟩=>some (0,a,some b,())
def YE:List (Nat×de):=[(18,.var oO (.cons vI (.cons (.mp 27) .nil))),(21,bV bG),(27,.pmap (.int .i64) (.map (.int .i64) .bool) 0)]
def agC:SS:=⟨60,100,[tP 2 18,tP 5 21,(14,.val (.slice 96 bG)),tI 15,tI 16],YE,[]⟩
def YF:List (Nat×de):=[(18,.var oO (.cons vI (.cons (.mp 27) .nil))),(27,.pmap (.int .i64) (.map (.int .i64) .bool) 0)]
def YG:SS:=⟨60,100,[tP 2 18,(14,.val (.slice 96 bG)),tI 15,tI 16],YF,[]⟩
def agD:SS:=⟨60,100,[tP 2 18],YF,[]⟩
def agE:SS:=⟨60,100,[tP 2 18,tP 5 21,(14,.val (.slice 96 bG)),tI 15,tI 16,(38,.val (.slice 96 aQ)),tI 39,tI 40],YE,[]⟩
def agF:SS:=⟨60,100,[tP 2 18,tI 3],[(18,bV oO)],[]⟩
def agG:bh:=aF G [.cell 2 260,.tmp 3] 142 [.val iN] [] 100 agF [] (.br (u1 f142))
theorem agH:hS agG:=
 cO ⟨[(2,⟨[.N4 27 0],[],[],none,[],[],[]⟩),hE 5 [cB 0 [(0,27)] []],(8,⟨[],[],[],none,[],[.map 0 27 0 (.c 5 [.cD 1])],[.nr 27]⟩),hE 12 [cB 0 [(0,27)] []],(14,⟨[],[],[],none,[],[.map 1 27 76 (.c 5 [.cD 1])],[.nr 27]⟩),(17,⟨[.MT 27],[],[],none,[],[],[]⟩)],[(9,agC),(16,YG),(17,agD)],[],[(3,⟨YG,fun u2=>Int.toNat u2.2.1+1⟩),(10,⟨agE,fun u7=>Int.toNat u7.2.2.2.2.1+1⟩)],[],[]⟩ (hq Q4 hz) aJ Tryz.call142 Tryz.func142
def BF(a0:dN):Option dN:=
 some a0
def agI:SS:=⟨4,44,[(2,.func 201 .nil (.cons (pP 17) .nil))],[(17,bV oO)],[]⟩
def Q5:bh:=aF G [.tmp 2] 144 [.val oO] [] 44 agI [17] (.br (u1 BF))
theorem Q6:hS Q5:=
 cO (hR []) hz aJ Tryz.call144 Tryz.func144
def il:Nat→Int×Int×Int×dN×ZY×Zu→Option (cL (Int×Int×dN×ZY) (cL ZY ZY)):=aL fun rec6 ⟨f,b,c,d,e,a⟩=>if List.isEmpty a=true then(some (.brk (b,c,d,e))) else ux a fun x7 l8=>if 0≤x7.1 then(if x7.1<(e.length:Int) then(if 0≤x7.1 then(if Int.toNat x7.1=(Int.toNat x7.1) then(if(List.length (List.getD e (Int.toNat x7.1) [])+List.length [f])*8≤aH then(if 0≤x7.1 then(if Int.toNat x7.1=(Int.toNat x7.1) then(rec6 (f,b,c,d,List.set e (Int.toNat x7.1) ((List.getD e (Int.toNat x7.1) [])++[f]),l8)) else none) else none) else none) else none) else none) else none) else none
def jx:Nat→Int×Int×dN×ZY→Option (cL ZY ZY):=aL fun amC ⟨f,e,g,h⟩=>if decide (e<f) then(aI (U:=Int×Int×dN×ZY) (il (List.length (aX (aP (.int .i64) (.map (.int .i64) .bool) e (aX g.2.1)))+1) (e,f,e,g,h,aX (aP (.int .i64) (.map (.int .i64) .bool) e (aX g.2.1)))) fun⟨a,b,c,d⟩=>amC (a,bq (b+1),c,d)) else(some (.brk h))
def f202(a0:dN):Option ZY:=
 if 0≤a0.1 then(if a0.1≤a0.1 then(if a0.1*(24:Int)≤(aH:Int) then(aI (U:=ZY) (jx (Int.toNat a0.1+1) (a0.1,0,a0,List.replicate (Int.toNat a0.1) [])) fun v1=>some v1) else none) else none) else none
def YH:SS:=⟨35,75,[tP 1 17,(3,.own 24),tI 10,tI 11],[(17,bV oO),(24,.cT 30 24 (.slice 8 (.int .i64)) 3)],[]⟩
def agJ:SS:=⟨35,75,[(3,.own 24)],[(24,.cT 30 24 (.slice 8 (.int .i64)) 3)],[]⟩
def agK:SS:=⟨35,75,[tP 1 17,(3,.own 24),tI 4,tI 10,tI 11,tP 18 34],[(17,bV oO),(24,.cT 30 24 (.slice 8 (.int .i64)) 3),(34,.kB (.int .i64) .bool)],[]⟩
def agL:SS:=⟨35,75,[(2,.val (.slice 24 (.slice 8 (.int .i64))))],[],[]⟩
def YI:bh:=aF G [.tmp 2] 202 [.val oO] [] 75 agL [] (.br (u1 f202))
theorem agM:hS YI:=
 cO ⟨[(8,⟨[],[],[],none,[],[.row 24 51 (.t 5)],[.rj 24]⟩),(10,⟨[.MT 24],[],[],none,[],[],[]⟩)],[(9,YH),(10,agJ)],[],[(3,⟨YH,fun u2=>Int.toNat u2.1+1⟩),(6,⟨agK,fun u5=>List.length u5.2.2.2.2.2+1⟩)],[],[]⟩ hz aJ Tryz.call202 Tryz.func202
def rM(a0:Ze):Option (Int×Ze):=
 some ((a0.length:Int),a0)
def agN:SS:=⟨5,45,[tI 2],[(0,.row 3 8 (.int .i64))],[]⟩
def Q7:bh:=aF G [.tmp 2] 204 [.own 0] [(0,.row 3 8 (.int .i64))] 45 agN [0] (.br (u1 rM))
theorem IG:hS Q7:=
 cO (hR []) hz aJ Tryz.call204 Tryz.func204
def lW(a0:Int)(a1:Int)(a2:Ze):Option (Bool×Ze):=
 if 0≤a0 then(if a0<(a2.length:Int) then(if 0≤a1 then(if a1<(a2.length:Int) then(some (decide ((nth (.int .i64) a2 a0)<(nth (.int .i64) a2 a1)),a2)) else none) else none) else none) else none
def agO:SS:=⟨16,56,[(6,vB)],[(0,.row 3 8 (.int .i64))],[]⟩
def Q8:bh:=aF G [.tmp 6] 280 [.own 0,vI,vI] [(0,.row 3 8 (.int .i64))] 56 agO [0] (.br (u3 lW))
theorem IH:hS Q8:=
 cO (hR []) hz aJ Tryz.call280 Tryz.func280
def lY(a0:Int)(a1:Int)(a2:Ze):Option Ze:=
 if 0≤a1 then(if a1<(a2.length:Int) then(if 0≤a0 then(if a0<(a2.length:Int) then(if 0≤a0 then(if a0<(a2.length:Int) then(if 0≤a1 then(if a1<(List.length (List.set a2 (Int.toNat a0) (nth (.int .i64) a2 a1)):Int) then(some (List.set (List.set a2 (Int.toNat a0) (nth (.int .i64) a2 a1)) (Int.toNat a1) (nth (.int .i64) a2 a0))) else none) else none) else none) else none) else none) else none) else none) else none
def agP:SS:=⟨20,60,[],[(0,.row 3 8 (.int .i64))],[]⟩
def Q9:bh:=aF G [] 284 [.own 0,vI,vI] [(0,.row 3 8 (.int .i64))] 60 agP [0] (.br (u3 lY))
theorem BG:hS Q9:=
 cO (hR []) hz aJ Tryz.call284 Tryz.func284
def pY:Nat→Int×Ze→Option (cL Ze Ze):=aL fun amC ⟨c,d⟩=>if decide ((bq (Int.tdiv (bq (c -(1:Int))) (2:Int)))=c) then(some (.brk d)) else((lW c (bq (Int.tdiv (bq (c -(1:Int))) (2:Int))) d).bind fun⟨a,b⟩=>if !a then(some (.brk b)) else((lY (bq (Int.tdiv (bq (c -(1:Int))) (2:Int))) c b).bind fun y5=>amC (bq (Int.tdiv (bq (c -(1:Int))) (2:Int)),y5)))
def BH(a0:Int)(a1:Ze):Option Ze:=
 aI (U:=Ze) (pY iB (a0,a1)) fun v1=>some v1
def J1:List (Nat×de):=[(0,.var tc (.cons (.own 1) .nil)),(1,.row 3 8 (.int .i64))]
def YJ:SS:=⟨23,63,[],J1,[]⟩
def agQ:SS:=⟨23,63,[(0,.iface 333 (pP 0)),tI 1],J1,[]⟩
def Ra:bh:=aF G [] 251 [.iface 333 (pP 0),vI] J1 63 YJ [0,1] (.br (u2 BH))
theorem Rb:hS Ra:=
 cO ⟨[hE 1 [cB 0 [(0,1)] []],hE 2 [cB 1 [(0,1)] []]],[],[(0,YJ)],[(0,⟨agQ,fun _=>iB⟩)],[],[]⟩ (hq IH (hq BG hz)) aJ Tryz.call251 Tryz.func251
def BI(a0:Int)(a1:Ze):Option Ze:=
 if(List.length a1+List.length [a0])*8≤aH then(some (a1++[a0])) else none
def agR:SS:=⟨22,62,[],[(0,.var tc (.cons (.own 35) .nil)),(35,.row 3 8 (.int .i64))],[]⟩
def Rc:bh:=aF G [] 282 [pP 0,.iface 3 vI] J1 62 agR [0,35] (.br (u2 BI))
theorem Re:hS Rc:=
 cO (hR []) hz aJ Tryz.call282 Tryz.func282
def rN(a0:Int)(a1:Ze):Option Ze:=
 (BI a0 a1).bind fun y1=>(rM y1).bind fun⟨a,b⟩=>(BH (bq (a -(1:Int))) b).bind fun y3=>some y3
def agS:SS:=⟨12,52,[],[(0,.var tc (.cons (.own 22) .nil)),(22,.row 3 8 (.int .i64))],[]⟩
def II:bh:=aF G [] 203 [.iface 333 (pP 0),.iface 3 vI] J1 52 agS [0,22] (.br (u2 rN))
theorem Rf:hS II:=
 cO (hR [hE 0 [cB 0 [(0,0),(1,1)] [(35,22)]],hE 1 [cB 1 [(0,22)] [],cB 2 [(0,0),(1,22)] []]]) (hq Re (hq IG (hq Rb hz))) aJ Tryz.call203 Tryz.func203
end Go.Proofs.YtpmlkhjpbjnagaaGreat
