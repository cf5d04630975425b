/- part -/
import Derived.Test.YtpmlkhjpbjnagaaGreatF2
noncomputable section
namespace Go.Proofs.YtpmlkhjpbjnagaaGreat
open Go.Ax
def PC:Nat→ZC×ZC×xX→Zs:=aL fun amb ⟨c,d,b,a⟩=>if decide (a<b) then(if 0≤a then(if a<(c.length:Int) then(if 0≤a then(if a<(d.length:Int) then(if !bl bu (nth bu c a) (nth bu d a) then(bU (some false)) else(amb (c,d,b,bq (a+1)))) else none) else none) else none) else none) else(some (.brk ()))
def f212(a0:ZC)(a1:ZC):Zm:=
 if !decide ((a0.length:Int)=(a1.length:Int)) then(some false) else(aI (U:=Unit) (PC (Int.toNat (a0.length:Int)+1) (a0,a1,(a0.length:Int),0)) fun _=>some true)
def adE:SS:=⟨26,66,[(0,.val (.slice 80 bu)),(1,.val (.slice 80 bu)),tI 12,tI 13],[],[]⟩
def adF:aZ:=aF G [.tmp 4] 212 [.val (.slice 80 bu),.val (.slice 80 bu)] [] 66 Sq [] (.br (u2 f212))
theorem adG:hS adF:=
 cO ⟨[],[(9,Sn)],[],[(4,⟨adE,fun u2=>Int.toNat u2.2.2.1+1⟩)],[],[]⟩ hz aJ Tryz.call212 Tryz.func212
def f150(a0:dn)(a1:dn):Zm:=
 Option.bind (α:=Bool) (if decide (a0.1=a1.1) then(if decide (a0.2.1=a1.2.1) then((f210 a0.2.2.1 a1.2.2.1).bind fun y1=>if y1=true then((f211 a0.2.2.2.1 a1.2.2.2.1).bind fun y2=>if y2=true then((f212 a0.2.2.2.2.1 a1.2.2.2.2.1).bind fun y3=>some y3) else(some false)) else(some false)) else(some false)) else(some false)) fun v4=>some v4
def adH:SS:=⟨38,78,[(4,vB)],[],[]⟩
def adI:aZ:=aF G [.tmp 4] 150 [.val bG,.val bG] [] 78 adH [] (.br (u2 f150))
theorem adJ:hS adI:=
 cO (hR [hD 1 4 [cA 0,cA 1,cA 2]]) (hq acq (hq acu (hq adG hz))) aJ Tryz.call150 Tryz.func150
def F1:Nat→Zo×Zo×xX→Zs:=aL fun amb ⟨d,c,b,a⟩=>if decide (a<b) then(if 0≤a then(if a<(c.length:Int) then(if 0≤a then(if a<(d.length:Int) then((f150 (nth bG c a) (nth bG d a)).bind fun y4=>if !y4 then(bU (some false)) else(amb (d,c,b,bq (a+1)))) else none) else none) else none) else none) else(some (.brk ()))
def A8(a0:Zo)(a1:Zo):Zm:=
 if !decide ((a0.length:Int)=(a1.length:Int)) then(some false) else(aI (U:=Unit) (F1 (Int.toNat (a0.length:Int)+1) (a1,a0,(a0.length:Int),0)) fun _=>some true)
def adK:SS:=⟨32,72,[(1,.val (.slice 96 bG)),(2,.func 150 .nil .nil),(15,.val (.slice 96 bG)),tI 16,tI 17],[],[]⟩
def PD:aZ:=aF G [.tmp 6] 149 [.val (.slice 96 bG),.val (.slice 96 bG),.func 150 .nil .nil] [] 72 Ou [] (.br (u2 A8))
theorem PE:hS PD:=
 cO ⟨[hA 7 0],[(10,Ot)],[],[(4,⟨adK,fun u2=>Int.toNat u2.2.2.1+1⟩)],[],[]⟩ (hq adJ hz) aJ Tryz.call149 Tryz.func149
def PG:Nat→Zw×Zw×xX→Zs:=aL fun amb ⟨c,d,b,a⟩=>if decide (a<b) then(if 0≤a then(if a<(c.length:Int) then(if 0≤a then(if a<(d.length:Int) then(if !bl aU (nth aU c a) (nth aU d a) then(bU (some false)) else(amb (c,d,b,bq (a+1)))) else none) else none) else none) else none) else(some (.brk ()))
def f213(a0:Zw)(a1:Zw):Zm:=
 if !decide ((a0.length:Int)=(a1.length:Int)) then(some false) else(aI (U:=Unit) (PG (Int.toNat (a0.length:Int)+1) (a0,a1,(a0.length:Int),0)) fun _=>some true)
def adL:aZ:=aF G [.tmp 4] 213 [.val (.slice 56 aU),.val (.slice 56 aU)] [] 66 Sq [] (.br (u2 f213))
theorem adM:hS adL:=
 cO ⟨[],[(9,Sn)],[],[(4,⟨W8,fun u2=>Int.toNat u2.2.2.1+1⟩)],[],[]⟩ hz aJ Tryz.call213 Tryz.func213
def f152(a0:sI)(a1:sI):Zm:=
 Option.bind (α:=Bool) (if decide (a0.1=a1.1) then(if decide (a0.2.1=a1.2.1) then(if decide (a0.2.2.1=a1.2.2.1) then(if decide (a0.2.2.2.1=a1.2.2.2.1) then((f213 a0.2.2.2.2.1 a1.2.2.2.2.1).bind fun y1=>some y1) else(some false)) else(some false)) else(some false)) else(some false)) fun v2=>some v2
def adN:SS:=⟨38,78,[(4,vB)],[],[]⟩
def adO:aZ:=aF G [.tmp 4] 152 [.val gr,.val gr] [] 78 adN [] (.br (u2 f152))
theorem adP:hS adO:=
 cO (hR [hD 1 4 [cA 0]]) (hq adM hz) aJ Tryz.call152 Tryz.func152
def F2:Nat→ZJ×ZJ×xX→Zs:=aL fun amb ⟨d,c,b,a⟩=>if decide (a<b) then(if 0≤a then(if a<(c.length:Int) then(if 0≤a then(if a<(d.length:Int) then((f152 (nth gr c a) (nth gr d a)).bind fun y4=>if !y4 then(bU (some false)) else(amb (d,c,b,bq (a+1)))) else none) else none) else none) else none) else(some (.brk ()))
def A9(a0:ZJ)(a1:ZJ):Zm:=
 if !decide ((a0.length:Int)=(a1.length:Int)) then(some false) else(aI (U:=Unit) (F2 (Int.toNat (a0.length:Int)+1) (a1,a0,(a0.length:Int),0)) fun _=>some true)
def adQ:SS:=⟨32,72,[(1,.val (.slice 72 gr)),(2,.func 152 .nil .nil),(15,.val (.slice 72 gr)),tI 16,tI 17],[],[]⟩
def PH:aZ:=aF G [.tmp 6] 151 [.val (.slice 72 gr),.val (.slice 72 gr),.func 152 .nil .nil] [] 72 Ou [] (.br (u2 A9))
theorem PI:hS PH:=
 cO ⟨[hA 7 0],[(10,Ot)],[],[(4,⟨adQ,fun u2=>Int.toNat u2.2.2.1+1⟩)],[],[]⟩ (hq adP hz) aJ Tryz.call151 Tryz.func151
def PJ:Nat→List pD×List pD×xX→Zs:=aL fun amb ⟨c,d,b,a⟩=>if decide (a<b) then(if 0≤a then(if a<(c.length:Int) then(if 0≤a then(if a<(d.length:Int) then(if !bl eW (nth eW c a) (nth eW d a) then(bU (some false)) else(amb (c,d,b,bq (a+1)))) else none) else none) else none) else none) else(some (.brk ()))
def f214(a0:List pD)(a1:List pD):Zm:=
 if !decide ((a0.length:Int)=(a1.length:Int)) then(some false) else(aI (U:=Unit) (PJ (Int.toNat (a0.length:Int)+1) (a0,a1,(a0.length:Int),0)) fun _=>some true)
def adR:SS:=⟨26,66,[(0,.val (.slice 48 eW)),(1,.val (.slice 48 eW)),tI 12,tI 13],[],[]⟩
def adS:aZ:=aF G [.tmp 4] 214 [.val (.slice 48 eW),.val (.slice 48 eW)] [] 66 Sq [] (.br (u2 f214))
theorem adT:hS adS:=
 cO ⟨[],[(9,Sn)],[],[(4,⟨adR,fun u2=>Int.toNat u2.2.2.1+1⟩)],[],[]⟩ hz aJ Tryz.call214 Tryz.func214
def f154(a0:ou)(a1:ou):Zm:=
 Option.bind (α:=Bool) (if decide (a0.1=a1.1) then(if decide (a0.2.2.1=a1.2.2.1) then((f214 a0.2.1 a1.2.1).bind fun y1=>some y1) else(some false)) else(some false)) fun v2=>some v2
def adU:SS:=⟨24,64,[(4,vB)],[],[]⟩
def adV:aZ:=aF G [.tmp 4] 154 [.val dJ,.val dJ] [] 64 adU [] (.br (u2 f154))
theorem adW:hS adV:=
 cO (hR [hD 1 4 [cA 0]]) (hq adT hz) aJ Tryz.call154 Tryz.func154
def F3:Nat→ZE×ZE×xX→Zs:=aL fun amb ⟨d,c,b,a⟩=>if decide (a<b) then(if 0≤a then(if a<(c.length:Int) then(if 0≤a then(if a<(d.length:Int) then((f154 (nth dJ c a) (nth dJ d a)).bind fun y4=>if !y4 then(bU (some false)) else(amb (d,c,b,bq (a+1)))) else none) else none) else none) else none) else(some (.brk ()))
def Ba(a0:ZE)(a1:ZE):Zm:=
 if !decide ((a0.length:Int)=(a1.length:Int)) then(some false) else(aI (U:=Unit) (F3 (Int.toNat (a0.length:Int)+1) (a1,a0,(a0.length:Int),0)) fun _=>some true)
def adX:SS:=⟨32,72,[(1,.val (.slice 48 dJ)),(2,.func 154 .nil .nil),(15,.val (.slice 48 dJ)),tI 16,tI 17],[],[]⟩
def PK:aZ:=aF G [.tmp 6] 153 [.val (.slice 48 dJ),.val (.slice 48 dJ),.func 154 .nil .nil] [] 72 Ou [] (.br (u2 Ba))
theorem PN:hS PK:=
 cO ⟨[hA 7 0],[(10,Ot)],[],[(4,⟨adX,fun u2=>Int.toNat u2.2.2.1+1⟩)],[],[]⟩ (hq adW hz) aJ Tryz.call153 Tryz.func153
def f105(a0:cp)(a1:cp):Zm:=
 Option.bind (α:=Bool) ((f145 a0.1 a1.1).bind fun y1=>if y1=true then((f146 a0.2.1 a1.2.1).bind fun y2=>if y2=true then((Ag a0.2.2.1 a1.2.2.1).bind fun y3=>if y3=true then((A8 a0.2.2.2.1 a1.2.2.2.1).bind fun y4=>if y4=true then((A9 a0.2.2.2.2.1 a1.2.2.2.2.1).bind fun y5=>if y5=true then((Ba a0.2.2.2.2.2.1 a1.2.2.2.2.2.1).bind fun y6=>some y6) else(some false)) else(some false)) else(some false)) else(some false)) else(some false)) fun v7=>some v7
def adY:SS:=⟨45,85,[(4,vB)],[],[]⟩
def adZ:aZ:=aF G [.tmp 4] 105 [.val iJ,.val iJ] [] 85 adY [] (.br (u2 f105))
theorem X0:hS adZ:=
 cO (hR [hD 1 4 [cA 0,cA 1,cA 2,cA 3,cA 4,cA 5]]) (hq KR (hq ab7 (hq Ox (hq PE (hq PI (hq PN hz)))))) aJ Tryz.call105 Tryz.func105
def f99(a0:cp):ZV:=
 (f127 a0).bind fun⟨b,a⟩=>if !decide (a=(0:Int)) then(some a) else((f105 b a0).bind fun y2=>if !y2 then(some (160:Int)) else(some (0:Int)))
def ad0:SS:=⟨16,56,[tI 2],[],[]⟩
def c99:aZ:=aF G [.tmp 2] 99 [.val iJ] [] 56 ad0 [] (.br (u1 f99))
theorem x99:hS c99:=
 cO (hR [hA 1 0,hA 4 1]) (hq ab4 (hq X0 hz)) aJ Tryz.call99 Tryz.func99
def f184(a0:ou):Zm:=
 some (decide ((64:Int)<(a0.2.1.length:Int)))
def ad1:SS:=⟨7,47,[(2,vB)],[],[]⟩
def ad2:aZ:=aF G [.tmp 2] 184 [.val dJ] [] 47 ad1 [] (.br (u1 f184))
theorem ad3:hS ad2:=
 cO (hR []) hz aJ Tryz.call184 Tryz.func184
def F4:Nat→ZE×xX→Option (cK Unit Int):=aL fun amb ⟨c,b,a⟩=>if decide (a<b) then(if 0≤a then(if a<(c.length:Int) then((f184 (nth dJ c a)).bind fun y4=>if y4=true then(bU (some a)) else(amb (c,b,bq (a+1)))) else none) else none) else(some (.brk ()))
def Bb(a0:ZE):ZV:=
 aI (U:=Unit) (F4 (Int.toNat (a0.length:Int)+1) (a0,(a0.length:Int),0)) fun _=>some (-1:Int)
def ad4:SS:=⟨19,59,[],[],[]⟩
def ad5:SS:=⟨19,59,[(0,.val (.slice 48 dJ)),(1,.func 184 .nil .nil),tI 7,tI 8],[],[]⟩
def ad6:SS:=⟨19,59,[tI 4],[],[]⟩
def PO:aZ:=aF G [.tmp 4] 243 [.val (.slice 48 dJ),.func 184 .nil .nil] [] 59 ad6 [] (.br (u1 Bb))
theorem PQ:hS PO:=
 cO ⟨[hA 4 0],[(7,ad4)],[],[(2,⟨ad5,fun u2=>Int.toNat u2.2.1+1⟩)],[],[]⟩ (hq ad3 hz) aJ Tryz.call243 Tryz.func243
def uN(a0:ZE):Zm:=
 (Bb a0).bind fun y1=>some (decide ((0:Int)≤y1))
def MK:SS:=⟨9,49,[(4,vB)],[],[]⟩
def PR:aZ:=aF G [.tmp 4] 183 [.val (.slice 48 dJ),.func 184 .nil .nil] [] 49 MK [] (.br (u1 uN))
theorem PT:hS PR:=
 cO (hR [hA 1 0]) (hq PQ hz) aJ Tryz.call183 Tryz.func183
def f128(a0:dw):Zm:=
 Option.bind (α:=Bool) (if decide ((8:Int)<(a0.1.1.length:Int)) then(some true) else(if decide ((64:Int)<(a0.1.2.1.length:Int)) then(some true) else(if decide ((16:Int)<(a0.1.2.2.1.length:Int)) then(some true) else(if decide ((16:Int)<(a0.1.2.2.2.1.length:Int)) then(some true) else(if decide ((16:Int)<(a0.1.2.2.2.2.1.length:Int)) then(some true) else(some (decide ((8:Int)<(a0.1.2.2.2.2.2.1.length:Int))))))))) fun v1=>if v1=true then(some false) else((uN a0.1.2.2.2.2.2.1).bind fun y2=>some (!y2))
def ad7:SS:=⟨48,88,[(2,vB)],[],[]⟩
def ad8:aZ:=aF G [.tmp 2] 128 [.val iK] [] 88 ad7 [] (.br (u1 f128))
theorem ad9:hS ad8:=
 cO (hR [hD 1 42 [],hA 3 0]) (hq PT hz) aJ Tryz.call128 Tryz.func128
def f132(a0:dw)(a1:gL):Zm:=
 Option.bind (α:=Bool) (if decide ((1:Int)≤a1.2.2.2.2.1) then(if decide (a1.2.2.2.2.1≤(1099511627776:Int)) then(if decide ((0:Int)≤a1.2.2.2.1) then(if decide (a1.2.2.2.1<(a0.1.2.1.length:Int)) then(if 0≤a1.2.2.2.1 then(if a1.2.2.2.1<(a0.1.2.1.length:Int) then(some (decide ((nth aU a0.1.2.1 a1.2.2.2.1).2.2.2.2.1=(1:Int)))) else none) else none) else(some false)) else(some false)) else(some false)) else(some false)) fun v1=>some v1
def aea:SS:=⟨38,78,[(4,vB)],[],[]⟩
def aeb:aZ:=aF G [.tmp 4] 132 [.val iK,.val aU] [] 78 aea [] (.br (u2 f132))
theorem X1:hS aeb:=
 cO (hR [hD 1 4 []]) hz aJ Tryz.call132 Tryz.func132
def qW(a0:gL)(a1:dw):SU:=
 (f132 a1 a0).bind fun y1=>some (!y1,a1)
def SO:List (Nat×db):=[(0,.var (.aT .func) (.fq 132 iK))]
def aec:SS:=⟨8,48,[(3,vB)],SO,[]⟩
def PU:aZ:=aF G [.tmp 3] 190 [.val aU,pP 0] SO 48 aec [0] (.br (u2 qW))
theorem PV:hS PU:=
 cO (hR [hA 1 0]) (hq X1 hz) aJ Tryz.call190 Tryz.func190
def F5:Nat→Zw×Int×Ed→Option (cK dw Ed):=aL fun amb ⟨e,d,c,f⟩=>if decide (c<d) then(if 0≤c then(if c<(e.length:Int) then((qW (nth aU e c) f).bind fun⟨a,b⟩=>if a=true then(bU (some (c,b))) else(amb (e,d,bq (c+1),b))) else none) else none) else(some (.brk f))
def Bc(a0:Zw)(a1:dw):Option Ed:=
 aI (U:=dw) (F5 (Int.toNat (a0.length:Int)+1) (a0,(a0.length:Int),0,a1)) fun v1=>some ((-1:Int),v1)
def aed:SS:=⟨19,59,[],SO,[]⟩
def aee:SS:=⟨19,59,[(0,.val (.slice 56 aU)),(1,.func 190 .nil (.cons (pP 0) .nil)),tI 7,tI 8],SO,[]⟩
def aef:SS:=⟨19,59,[tI 4],SO,[]⟩
def PW:aZ:=aF G [.tmp 4] 247 [.val (.slice 56 aU),.func 190 .nil (.cons (pP 0) .nil)] SO 59 aef [0] (.br (u2 Bc))
theorem PX:hS PW:=
 cO ⟨[hE 4 [cB 0 [(0,0)] []]],[(7,aed)],[],[(2,⟨aee,fun u2=>Int.toNat u2.2.1+1⟩)],[],[]⟩ (hq PV hz) aJ Tryz.call247 Tryz.func247
def Bd(a0:Zw)(a1:dw):SU:=
 (Bc a0 a1).bind fun⟨a,b⟩=>some (decide ((0:Int)≤a),b)
def aeg:SS:=⟨9,49,[(4,vB)],SO,[]⟩
def PY:aZ:=aF G [.tmp 4] 189 [.val (.slice 56 aU),.func 190 .nil (.cons (pP 0) .nil)] SO 49 aeg [0] (.br (u2 Bd))
theorem PZ:hS PY:=
 cO (hR [hE 1 [cB 0 [(0,0)] []]]) (hq PX hz) aJ Tryz.call189 Tryz.func189
def uO(a0:Zw)(a1:dw):Zm:=
 (Bd a0 a1).bind fun⟨a,_⟩=>some (!a)
def P0:aZ:=aF G [.tmp 4] 131 [.val (.slice 56 aU),.fq 132 iK] [] 49 MK [] (.br (u2 uO))
theorem P1:hS P0:=
 cO (hR [hE 1 [cB 0 [(0,19)] []]]) (hq PZ hz) aJ Tryz.call131 Tryz.func131
def P2:Option (List (Option Nat)):=
 some [none,some 259,some 260,some 261,some 262]
def aeh:SS:=⟨2,42,[tP 0 16],[(16,.var (.fns 5) (.val (.fns 5)))],[]⟩
def P3:aZ:=aF G [.cell 0 356] 221 [] [] 42 aeh [] (.br (fun _=>P2))
theorem P4:hS P3:=
 cO (hR []) hz aJ Tryz.call221 Tryz.func221
def Be:Nat→ZM×Int×Int×List (Zi×Bool)→Zs:=aL fun amb ⟨c,b,a,d⟩=>if decide (a<b) then(if 0≤a then(if a<(c.length:Int) then(if(aQ .str .bool (nth .str c a) d)=true then(bU (some false)) else(if d.length+1≤aH then(amb (c,b,bq (a+1),aX .str (nth .str c a) true d)) else none)) else none) else none) else(some (.brk ()))
def f263(a0:ZM):Zm:=
 aI (U:=Unit) (Be (Int.toNat (a0.length:Int)+1) (a0,(a0.length:Int),0,([]:List (Zi×Bool)))) fun _=>some true
def aei:SS:=⟨21,61,[],[],[]⟩
def aej:SS:=⟨21,61,[(3,.mp 24),(9,.val (.slice 16 .str)),tI 10,tI 11],[(24,.map .str .bool)],[]⟩
def aek:SS:=⟨21,61,[(2,vB)],[],[]⟩
def ael:aZ:=aF G [.tmp 2] 263 [.val (.slice 16 .str)] [] 61 aek [] (.br (u1 f263))
theorem aem:hS ael:=
 cO ⟨[],[(9,aei)],[],[(3,⟨aej,fun u2=>Int.toNat u2.2.1+1⟩)],[],[]⟩ hz aJ Tryz.call263 Tryz.func263
def f262(a0:dF)(_a1:Int):Zm:=
 Option.bind (α:=Bool) (if decide (a0.2.1=(0:Int)) then(if decide (a0.2.2.1=(bq ((a0.2.2.2.2.2.1.length:Int) -(1:Int)))) then(if decide (a0.2.2.2.2.1=(-1:Int)) then(if decide ((1:Int)≤(a0.2.2.2.2.2.1.length:Int)) then(if decide ((a0.2.2.2.2.2.1.length:Int)≤(16:Int)) then((f263 a0.2.2.2.2.2.1).bind fun y1=>some y1) else(some false)) else(some false)) else(some false)) else(some false)) else(some false)) fun v2=>some v2
def aen:SS:=⟨39,79,[(4,vB)],[],[]⟩
def aeo:aZ:=aF G [.tmp 4] 262 [.val fD,vI] [] 79 aen [] (.br (u2 f262))
theorem aep:hS aeo:=
 cO (hR [hD 1 4 [cA 0]]) (hq aem hz) aJ Tryz.call262 Tryz.func262
def f261(a0:dF)(_a1:Int):Zm:=
 Option.bind (α:=Bool) (if decide (a0.2.1=(0:Int)) then(if decide (a0.2.2.1=(4095:Int)) then(if decide (a0.2.2.2.2.1=(-1:Int)) then(some (decide ((a0.2.2.2.2.2.1.length:Int)=(0:Int)))) else(some false)) else(some false)) else(some false)) fun v1=>some v1
def X2:SS:=⟨24,64,[(4,vB)],[],[]⟩
def aeq:aZ:=aF G [.tmp 4] 261 [.val fD,vI] [] 64 X2 [] (.br (u2 f261))
theorem aer:hS aeq:=
 cO (hR [hD 1 4 []]) hz aJ Tryz.call261 Tryz.func261
def f260(a0:dF)(_a1:Int):Zm:=
 Option.bind (α:=Bool) (if decide (a0.2.1=(0:Int)) then(if decide (a0.2.2.1=(1023:Int)) then(if decide (a0.2.2.2.2.1=(-1:Int)) then(some (decide ((a0.2.2.2.2.2.1.length:Int)=(0:Int)))) else(some false)) else(some false)) else(some false)) fun v1=>some v1
def aes:aZ:=aF G [.tmp 4] 260 [.val fD,vI] [] 64 X2 [] (.br (u2 f260))
theorem aet:hS aes:=
 cO (hR [hD 1 4 []]) hz aJ Tryz.call260 Tryz.func260
def f259(a0:dF)(a1:Int):Zm:=
 Option.bind (α:=Bool) (if decide ((0:Int)≤a0.2.1) then(if decide (a0.2.1≤a0.2.2.1) then(if decide (a0.2.2.1≤(1048576:Int)) then(if decide ((-1:Int)≤a0.2.2.2.2.1) then(if decide (a0.2.2.2.2.1<a1) then(some (decide ((a0.2.2.2.2.2.1.length:Int)=(0:Int)))) else(some false)) else(some false)) else(some false)) else(some false)) else(some false)) fun v1=>some v1
def aeu:SS:=⟨37,77,[(4,vB)],[],[]⟩
def aev:aZ:=aF G [.tmp 4] 259 [.val fD,vI] [] 77 aeu [] (.br (u2 f259))
theorem aew:hS aev:=
 cO (hR [hD 1 4 []]) hz aJ Tryz.call259 Tryz.func259
def f168(a0:dw)(a1:dF):Zm:=
 aI (U:=dw×dF) (Option.bind (α:=Bool) (if decide (a1.1<(1:Int)) then(some true) else(some (decide ((4:Int)<a1.1)))) fun v2=>if v2=true then(bU (some false)) else(some (.brk (a0,a1)))) fun⟨b,a⟩=>if 0≤a.1 then(if a.1<(5:Int) then(if a.1=(0:Int) then none else(if a.1=(1:Int) then((f259 a (b.1.2.1.length:Int)).bind fun y6=>some y6) else(if a.1=(2:Int) then((f260 a (b.1.2.1.length:Int)).bind fun y5=>some y5) else(if a.1=(3:Int) then((f261 a (b.1.2.1.length:Int)).bind fun y4=>some y4) else(if a.1=(4:Int) then((f262 a (b.1.2.1.length:Int)).bind fun y3=>some y3) else none))))) else none) else none
def aex:SS:=⟨23,63,[tP 2 18,tP 3 19],[(18,bV iK),(19,bV fD)],[]⟩
def aey:SS:=⟨23,63,[(4,vB)],[],[]⟩
def aez:aZ:=aF G [.tmp 4] 168 [.val iK,.val fD] [] 63 aey [] (.br (u2 f168))
theorem UA:hS aez:=
 cO ⟨[hD 1 12 [],hE 3 [cA 0,⟨[1,2,3,4],[],[],[],[]⟩]],[(3,aex)],[],[],[],[]⟩ (hq P4 (hq aep (hq aer (hq aet (hq aew hz))))) aJ Tryz.call168 Tryz.func168
def nX:Nat→ZH×Int×Int×UI×Ed→Option (cK (ZH×Int×Ed) (cK Unit Bool)):=aL fun rec9 ⟨c,d,e,b,a,f⟩=>if decide (a<(4:Int)) then(if 0≤a then(if a<(4:Int) then(Option.bind (α:=Bool) (if decide ((nth (.int .i64) b a)<(0:Int)) then(some true) else(some (decide ((9:Int)<(nth (.int .i64) b a))))) fun v10=>if v10=true then(bU (bU (some false))) else(rec9 (c,d,e,b,bq (a+1),f))) else none) else none) else(some (.brk (c,d,e,f)))
def uP:Nat→ZH×Int×Ed→Zs:=aL fun amE ⟨g,f,e,h⟩=>if decide (e<f) then(aI (U:=ZH×Int×Ed) (if 0≤e then(if e<(g.length:Int) then((f168 h (nth bO g e).2.1).bind fun y7=>if !y7 then(bU (bU (some false))) else(nX (Int.toNat (4:Int)+1) (g,f,e,(nth bO g e).2.2.1,0,h))) else none) else none) fun⟨a,b,c,d⟩=>amE (a,b,bq (c+1),d)) else(some (.brk ()))
def f134(a0:dw)(a1:lL):Zm:=
 aI (U:=dw×lL) (Option.bind (α:=Bool) (if decide (a1.2.2.1<(0:Int)) then(some true) else(if decide ((a0.1.1.length:Int)≤a1.2.2.1) then(some true) else(if decide (a1.2.2.2.1<(1:Int)) then(some true) else(if decide ((255:Int)<a1.2.2.2.1) then(some true) else(if decide ((a1.2.2.2.2.1.length:Int)<(1:Int)) then(some true) else(if decide ((12:Int)<(a1.2.2.2.2.1.length:Int)) then(some true) else(if(0:Int)<(a1.2.2.2.2.1.length:Int) then(some (!decide ((nth bO a1.2.2.2.2.1 (0:Int)).2.1.1=(3:Int)))) else none))))))) fun v2=>if v2=true then(bU (some false)) else(some (.brk (a0,a1)))) fun⟨b,a⟩=>aI (U:=Unit) (uP (Int.toNat (a.2.2.2.2.1.length:Int)+1) (a.2.2.2.2.1,(a.2.2.2.2.1.length:Int),0,b)) fun _=>some true
def aeA:SS:=⟨77,117,[tP 2 18,tP 3 19],[(18,bV iK),(19,bV bF)],[]⟩
def X3:SS:=⟨77,117,[tP 2 18,(53,.val (.slice 120 bO)),tI 54,tI 55],[(18,bV iK)],[]⟩
def aeB:SS:=⟨77,117,[],[],[]⟩
def aeC:SS:=⟨77,117,[tP 2 18,(53,.val (.slice 120 bO)),tI 54,tI 55,(65,.val D0),tI 66],[(18,bV iK)],[]⟩
def aeD:SS:=⟨77,117,[(4,vB)],[],[]⟩
def aeE:aZ:=aF G [.tmp 4] 134 [.val iK,.val bF] [] 117 aeD [] (.br (u2 f134))
theorem aeF:hS aeE:=
 cO ⟨[hD 1 51 [],hA 6 0,hD 11 74 []],[(3,aeA),(14,X3),(15,aeB)],[],[(4,⟨X3,fun u4=>Int.toNat u4.2.1+1⟩),(9,⟨aeC,fun _=>Int.toNat (4:Int)+1⟩)],[],[]⟩ (hq UA hz) aJ Tryz.call134 Tryz.func134
def qX(a0:lL)(a1:dw):SU:=
 (f134 a1 a0).bind fun y1=>some (!y1,a1)
def SP:List (Nat×db):=[(0,.var (.aT .func) (.fq 134 iK))]
def aeG:SS:=⟨8,48,[(3,vB)],SP,[]⟩
def P5:aZ:=aF G [.tmp 3] 192 [.val bF,pP 0] SP 48 aeG [0] (.br (u2 qX))
theorem P6:hS P5:=
 cO (hR [hA 1 0]) (hq aeF hz) aJ Tryz.call192 Tryz.func192
def F6:Nat→ZG×Int×Ed→Option (cK dw Ed):=aL fun amb ⟨e,d,c,f⟩=>if decide (c<d) then(if 0≤c then(if c<(e.length:Int) then((qX (nth bF e c) f).bind fun⟨a,b⟩=>if a=true then(bU (some (c,b))) else(amb (e,d,bq (c+1),b))) else none) else none) else(some (.brk f))
def Bf(a0:ZG)(a1:dw):Option Ed:=
 aI (U:=dw) (F6 (Int.toNat (a0.length:Int)+1) (a0,(a0.length:Int),0,a1)) fun v1=>some ((-1:Int),v1)
def aeH:SS:=⟨19,59,[],SP,[]⟩
def aeI:SS:=⟨19,59,[(0,.val (.slice 96 bF)),(1,.func 192 .nil (.cons (pP 0) .nil)),tI 7,tI 8],SP,[]⟩
def aeJ:SS:=⟨19,59,[tI 4],SP,[]⟩
def P7:aZ:=aF G [.tmp 4] 248 [.val (.slice 96 bF),.func 192 .nil (.cons (pP 0) .nil)] SP 59 aeJ [0] (.br (u2 Bf))
theorem P8:hS P7:=
 cO ⟨[hE 4 [cB 0 [(0,0)] []]],[(7,aeH)],[],[(2,⟨aeI,fun u2=>Int.toNat u2.2.1+1⟩)],[],[]⟩ (hq P6 hz) aJ Tryz.call248 Tryz.func248
def Bg(a0:ZG)(a1:dw):SU:=
 (Bf a0 a1).bind fun⟨a,b⟩=>some (decide ((0:Int)≤a),b)
def aeK:SS:=⟨9,49,[(4,vB)],SP,[]⟩
def P9:aZ:=aF G [.tmp 4] 191 [.val (.slice 96 bF),.func 192 .nil (.cons (pP 0) .nil)] SP 49 aeK [0] (.br (u2 Bg))
theorem Qa:hS P9:=
 cO (hR [hE 1 [cB 0 [(0,0)] []]]) (hq P8 hz) aJ Tryz.call191 Tryz.func191
def uQ(a0:ZG)(a1:dw):Zm:=
 (Bg a0 a1).bind fun⟨a,_⟩=>some (!a)
def Qb:aZ:=aF G [.tmp 4] 133 [.val (.slice 96 bF),.fq 134 iK] [] 49 MK [] (.br (u2 uQ))
theorem Qc:hS Qb:=
 cO (hR [hE 1 [cB 0 [(0,19)] []]]) (hq Qa hz) aJ Tryz.call133 Tryz.func133
def f167(a0:dw)(a1:Int)(a2:Int):Option (Bool×dF):=
 aI (U:=Int×Int×dw×Int×Int×Int×Zi×Int) (Option.bind (α:=Bool) (if decide (a1<(0:Int)) then(some true) else(if decide ((a0.1.2.2.1.length:Int)≤a1) then(some true) else(if decide (a2<(0:Int)) then(some true) else(if 0≤a1 then(if a1<(a0.1.2.2.1.length:Int) then(some (decide ((List.length (nth bF a0.1.2.2.1 a1).2.2.2.2.1:Int)≤a2))) else none) else none)))) fun v2=>if v2=true then(bU (some (false,0,0,0,[],0,([]:ZM),()))) else(some (.brk (a1,a2,a0,0,0,0,[],0)))) fun⟨a,c,b,_,_,_,_,_⟩=>if 0≤a then(if a<(b.1.2.2.1.length:Int) then(if 0≤c then(if c<(List.length (nth bF b.1.2.2.1 a).2.2.2.2.1:Int) then(some (true,(nth bO (nth bF b.1.2.2.1 a).2.2.2.2.1 c).2.1)) else none) else none) else none) else none
def aeL:SS:=⟨46,86,[tI 1,tI 2,tP 3 19,tP 6 22],[(19,bV iK),(22,.var fD (.cons vI (.cons vI (.cons vI (.cons (.val .str) (.cons vI (.cons .bn .nil)))))))],[]⟩
def aeM:SS:=⟨46,86,[tP 6 22,(7,vB)],[(22,bV fD)],[]⟩
def aeN:aZ:=aF G [.cell 6 119,.tmp 7] 167 [.val iK,vI,vI] [] 86 aeM [] (.br (u3 f167))
theorem ML:hS aeN:=
 cO ⟨[hD 1 33 []],[(3,aeL)],[],[],[],[]⟩ hz aJ Tryz.call167 Tryz.func167
def f244(a0:fF)(a1:gL)(a2:Int):Option (Bool×dF):=
 aI (U:=fF×gL×Int×Int×Int×Zi×Int) (Option.bind (α:=Bool) (if decide (a1.2.2.1<(0:Int)) then(some true) else(some (decide (a2≤a1.2.2.1)))) fun v2=>if v2=true then(bU (some (false,0,0,0,[],0,([]:ZM),()))) else(some (.brk (a0,a1,0,0,0,[],0)))) fun⟨b,a,_,_,_,_,_⟩=>if 0≤a.2.2.1 then(if a.2.2.1<(b.2.1.2.2.1.length:Int) then((f167 b.1 (nth aP b.2.1.2.2.1 a.2.2.1).2.2.1 a.2.2.2.1).bind fun⟨c,d⟩=>some (c,d)) else none) else none
def aeO:SS:=⟨33,73,[tP 3 19,tP 4 20,tP 6 22],[(19,bV mh),(20,bV aU),(22,.var fD (.cons vI (.cons vI (.cons vI (.cons (.val .str) (.cons vI (.cons .bn .nil)))))))],[]⟩
def aeP:SS:=⟨33,73,[tP 6 22,(7,vB)],[(22,bV fD)],[]⟩
def aeQ:aZ:=aF G [.cell 6 119,.tmp 7] 244 [.val mh,.val aU,vI] [] 73 aeP [] (.br (u3 f244))
theorem UB:hS aeQ:=
 cO ⟨[hD 1 16 [],hA 3 0],[(3,aeO)],[],[],[],[]⟩ (hq ML hz) aJ Tryz.call244 Tryz.func244
def uR:Nat→Zy×Int×Int×fF→Zs:=aL fun amE ⟨k,j,i,l⟩=>if decide (i<j) then(if 0≤i then(if i<(k.length:Int) then(aI (U:=Int×Zy×Int×Int×fF×BJ) (Option.bind (α:=Bool) (if decide ((nth aP k i).2.2.1<(0:Int)) then(some true) else(some (decide ((l.1.1.2.2.1.length:Int)≤(nth aP k i).2.2.1)))) fun v7=>if v7=true then(bU (bU (some false))) else(some (.brk (i,k,j,i,l,nth aP k i)))) fun⟨f,b,c,d,e,a⟩=>if decide (a.2.2.2.1.2.2.1=(-1:Int)) then(amE (b,c,bq (d+1),e)) else((f244 e a.2.2.2.1 f).bind fun⟨g,h⟩=>Option.bind (α:=Bool) (if !g then(some true) else(some (!decide (h.1=(3:Int))))) fun v9=>if v9=true then(bU (some false)) else(amE (b,c,bq (d+1),e)))) else none) else none) else(some (.brk ()))
def f185(a0:fF):Zm:=
 aI (U:=fF) (Option.bind (α:=Bool) (if decide ((a0.2.1.2.2.1.length:Int)<(1:Int)) then(some true) else(some (decide ((3:Int)<(a0.2.1.2.2.1.length:Int))))) fun v2=>if v2=true then(bU (some false)) else(some (.brk a0))) fun v1=>aI (U:=Unit) (uR (Int.toNat (v1.2.1.2.2.1.length:Int)+1) (v1.2.1.2.2.1,(v1.2.1.2.2.1.length:Int),0,v1)) fun _=>some true
def aeR:SS:=⟨61,101,[tP 1 17],[(17,bV mh)],[]⟩
def aeS:SS:=⟨61,101,[tP 1 17,tI 3,tP 4 20,(21,.val (.slice 96 aP)),tI 22,tI 23],[(17,bV mh),(20,bV aP)],[]⟩
def aeT:SS:=⟨61,101,[],[],[]⟩
def aeU:SS:=⟨61,101,[tP 1 17,(21,.val (.slice 96 aP)),tI 22,tI 23],[(17,bV mh)],[]⟩
def aeV:SS:=⟨61,101,[(2,vB)],[],[]⟩
def aeW:aZ:=aF G [.tmp 2] 185 [.val mh] [] 101 aeV [] (.br (u1 f185))
theorem aeX:hS aeW:=
 cO ⟨[hD 1 18 [],hD 6 40 [],hA 9 0,hD 10 59 []],[(3,aeR),(8,aeS),(13,aeT)],[],[(4,⟨aeU,fun u4=>Int.toNat u4.2.1+1⟩)],[],[]⟩ (hq UB hz) aJ Tryz.call185 Tryz.func185
def f245(a0:gL):Zm:=
 Option.bind (α:=Bool) (if decide (a0.2.2.1=(-1:Int)) then(if decide ((0:Int)≤a0.2.2.2.2.1) then(some (decide (a0.2.2.2.2.1≤(1048576:Int)))) else(some false)) else(some false)) fun v1=>some v1
def aeY:SS:=⟨16,56,[(2,vB)],[],[]⟩
def aeZ:aZ:=aF G [.tmp 2] 245 [.val aU] [] 56 aeY [] (.br (u1 f245))
theorem X4:hS aeZ:=
 cO (hR [hD 1 2 []]) hz aJ Tryz.call245 Tryz.func245
def f246(a0:dw)(a1:dF)(a2:dF):Zm:=
 aI (U:=dw×dF×dF) (if !decide (a1.1=a2.1) then(bU (some false)) else(if decide (a1.1=(4:Int)) then((f145 a1.2.2.2.2.2.1 a2.2.2.2.2.2.1).bind fun y2=>bU (some y2)) else(Option.bind (α:=Bool) (if !decide (a1.1=(1:Int)) then(some true) else(if decide (a1.2.2.2.2.1=(-1:Int)) then(some true) else(some (decide (a2.2.2.2.2.1=(-1:Int)))))) fun v3=>if v3=true then(bU (some (decide (a1.2.2.2.2.1=a2.2.2.2.2.1)))) else(some (.brk (a0,a1,a2)))))) fun⟨b,a,c⟩=>if 0≤a.2.2.2.2.1 then(if a.2.2.2.2.1<(b.1.2.1.length:Int) then(if 0≤c.2.2.2.2.1 then(if c.2.2.2.2.1<(b.1.2.1.length:Int) then(some (decide ((nth aU b.1.2.1 a.2.2.2.2.1).2.2.2.1=(nth aU b.1.2.1 c.2.2.2.2.1).2.2.2.1))) else none) else none) else none) else none
def ae0:SS:=⟨58,98,[tP 3 19,tP 4 20,tP 5 21],[(19,bV iK),(20,bV fD),(21,bV fD)],[]⟩
def ae1:SS:=⟨58,98,[(6,vB)],[],[]⟩
def ae2:aZ:=aF G [.tmp 6] 246 [.val iK,.val fD,.val fD] [] 98 ae1 [] (.br (u3 f246))
theorem ae3:hS ae2:=
 cO ⟨[hA 4 0,hD 5 22 []],[(7,ae0)],[],[],[],[]⟩ (hq KR hz) aJ Tryz.call246 Tryz.func246
def nY:Nat→Int×Int×fF×ru×Zw×List dF→Option (cK (fF×ru×List dF) Bool):=aL fun amE ⟨d,c,f,h,e,g⟩=>if decide (c<d) then(if 0≤c then(if c<(e.length:Int) then((f244 f (nth aU e c) (f.2.1.2.2.1.length:Int)).bind fun⟨a,b⟩=>Option.bind (α:=Bool) (if !a then((f245 (nth aU e c)).bind fun y7=>some (!y7)) else(some false)) fun v8=>if v8=true then(bU (some false)) else(if a=true then(if(List.length g+List.length [b])*72≤aH then(amE (d,bq (c+1),f,h,e,g++[b])) else none) else(amE (d,bq (c+1),f,h,e,g)))) else none) else none) else(some (.brk (f,h,g)))
def nk:Nat→Int×Int×ru×List dF→Zs:=aL fun rec14 ⟨b,a,d,c⟩=>if decide (a<b) then(if 0≤a then(if a<(c.length:Int) then(Option.bind (α:=Bool) (if decide ((nth fD c a).1=(1:Int)) then(some true) else(some (decide ((nth fD c a).1=(2:Int))))) fun v15=>Option.bind (α:=Bool) (if decide (d.1=(2:Int)) then(some (!v15)) else(if decide (d.1=(3:Int)) then(some (!v15)) else(some false))) fun v16=>if v16=true then(bU (some false)) else(rec14 (b,bq (a+1),d,c))) else none) else none) else(some (.brk ()))
def f186(a0:fF)(a1:ru):Zm:=
 aI (U:=fF×ru) (Option.bind (α:=Bool) (if decide (a1.1<(1:Int)) then(some true) else(some (decide ((4:Int)<a1.1)))) fun v2=>if v2=true then(bU (some false)) else(some (.brk (a0,a1)))) fun⟨b,a⟩=>aI (U:=fF×ru×List dF) (nY (Int.toNat (List.length [a.2.1,a.2.2.1]:Int)+1) ((List.length [a.2.1,a.2.2.1]:Int),0,b,a,[a.2.1,a.2.2.1],([]:List dF))) fun⟨d,e,c⟩=>aI (U:=ru×List dF) (Option.bind (α:=Bool) (if decide ((c.length:Int)=(0:Int)) then(some true) else(if decide ((c.length:Int)=(2:Int)) then(if(0:Int)<(c.length:Int) then(if(1:Int)<(c.length:Int) then((f246 d.1 (nth fD c (0:Int)) (nth fD c (1:Int))).bind fun y10=>some (!y10)) else none) else none) else(some false))) fun v11=>if v11=true then(bU (some false)) else(some (.brk (e,c)))) fun⟨g,f⟩=>aI (U:=Unit) (nk (Int.toNat (f.length:Int)+1) ((f.length:Int),0,g,f)) fun _=>some true
def ae4:SS:=⟨101,141,[tP 2 18,tP 3 19],[(18,bV mh),(19,bV aV)],[]⟩
def ae5:SS:=⟨101,141,[tP 2 18,tP 3 19,(5,.own 118)],[(18,bV mh),(19,bV aV),(118,.row 119 72 fD)],[]⟩
def X6:List (Nat×db):=[(19,bV aV),(118,.row 119 72 fD)]
def ae6:SS:=⟨101,141,[tP 3 19,(5,.own 118)],X6,[]⟩
def ae7:SS:=⟨101,141,[],[],[]⟩
def ae8:SS:=⟨101,141,[tP 2 18,tP 3 19,(5,.own 117),(25,.own 41),tI 26,tI 27],[(18,bV mh),(19,bV aV),(41,.row 128 56 aU),(117,.row 119 72 fD)],[]⟩
def ae9:SS:=⟨101,141,[tP 3 19,(74,.own 118),tI 75,tI 76],X6,[]⟩
def afa:SS:=⟨101,141,[(4,vB)],[],[]⟩
def afb:aZ:=aF G [.tmp 4] 186 [.val mh,.val aV] [] 141 afa [] (.br (u2 f186))
theorem afc:hS afb:=
 cO ⟨[hD 1 20 [],hA 7 0,hD 8 47 [cA 1],hD 13 73 [cA 2],hD 18 12 [],hD 19 99 []],[(3,ae4),(13,ae5),(15,ae6),(22,ae7)],[],[(5,⟨ae8,fun u4=>Int.toNat u4.1+1⟩),(16,⟨ae9,fun IB=>Int.toNat IB.1+1⟩)],[],[]⟩ (hq UB (hq X4 (hq ae3 hz))) aJ Tryz.call186 Tryz.func186
def f187(a0:fF)(a1:dF)(a2:gL):Zm:=
 (f245 a2).bind fun y1=>if y1=true then(Option.bind (α:=Bool) (if decide (a1.2.1≤a2.2.2.2.2.1) then(some (decide (a2.2.2.2.2.1≤a1.2.2.1))) else(some false)) fun v2=>some v2) else((f244 a0 a2 (a0.2.1.2.2.1.length:Int)).bind fun⟨a,b⟩=>Option.bind (α:=Bool) (if a=true then(if decide (b.1=a1.1) then(if decide (b.2.2.2.2.1=a1.2.2.2.2.1) then((f145 b.2.2.2.2.2.1 a1.2.2.2.2.2.1).bind fun y4=>if y4=true then(if decide (a1.2.1≤b.2.1) then(if decide (b.2.1≤a1.2.2.1) then(if decide (a1.2.1≤b.2.2.1) then(some (decide (b.2.2.1≤a1.2.2.1))) else(some false)) else(some false)) else(some false)) else(some false)) else(some false)) else(some false)) else(some false)) fun v5=>some v5)
def afd:SS:=⟨83,123,[(6,vB)],[],[]⟩
def afe:aZ:=aF G [.tmp 6] 187 [.val mh,.val fD,.val aU] [] 123 afd [] (.br (u3 f187))
theorem aff:hS afe:=
 cO (hR [hA 1 0,hD 2 6 [],hA 3 1,hD 4 6 [cA 2]]) (hq X4 (hq UB (hq KR hz))) aJ Tryz.call187 Tryz.func187
def Bh:Nat→Zf×Int×Int×Zu→Zs:=aL fun amb ⟨c,b,a,d⟩=>if decide (a<b) then(if 0≤a then(if a<(c.length:Int) then(if(aQ (.int .i64) .bool (nth (.int .i64) c a) d)=true then(bU (some false)) else(if d.length+1≤aH then(amb (c,b,bq (a+1),aX (.int .i64) (nth (.int .i64) c a) true d)) else none)) else none) else none) else(some (.brk ()))
def f188(a0:Zf):Zm:=
 aI (U:=Unit) (Bh (Int.toNat (a0.length:Int)+1) (a0,(a0.length:Int),0,([]:Zu))) fun _=>some true
def afg:SS:=⟨21,61,[],[],[]⟩
def afh:SS:=⟨21,61,[(3,.mp 24),(9,.val (.slice 8 (.int .i64))),tI 10,tI 11],[(24,.map (.int .i64) .bool)],[]⟩
def afi:SS:=⟨21,61,[(2,vB)],[],[]⟩
def afj:aZ:=aF G [.tmp 2] 188 [.val (.slice 8 (.int .i64))] [] 61 afi [] (.br (u1 f188))
theorem afk:hS afj:=
 cO ⟨[],[(9,afg)],[],[(3,⟨afh,fun u2=>Int.toNat u2.2.1+1⟩)],[],[]⟩ hz aJ Tryz.call188 Tryz.func188
def qY:Nat→ZB×Int×Int×fF→Option (cK fF Bool):=aL fun rec6 ⟨c,b,a,d⟩=>if decide (a<b) then(if 0≤a then(if a<(c.length:Int) then((f186 d (nth aV c a)).bind fun y7=>if !y7 then(bU (some false)) else(rec6 (c,b,bq (a+1),d))) else none) else none) else(some (.brk d))
def kV:Nat→Int×ZC×Int×Int×fF×Zf→Option (cK Zf Bool):=aL fun rec12 ⟨g,e,d,c,f,h⟩=>if decide (c<d) then(if 0≤c then(if c<(e.length:Int) then((f167 f.1 g (nth bu e c).2.1).bind fun⟨a,b⟩=>Option.bind (α:=Bool) (if !a then(some true) else(if decide ((nth bu e c).2.1=(0:Int)) then(some true) else((f187 f b (nth bu e c).2.2.1).bind fun y14=>some (!y14)))) fun v15=>if v15=true then(bU (some false)) else(if(List.length h+List.length [(nth bu e c).2.1])*8≤aH then(rec12 (g,e,d,bq (c+1),f,h++[(nth bu e c).2.1])) else none)) else none) else none) else(some (.brk h))
def f130(a0:fF):Zm:=
 aI (U:=fF) (Option.bind (α:=Bool) ((f185 a0).bind fun y2=>if !y2 then(some true) else(some (decide ((8:Int)<(a0.2.1.2.2.2.1.length:Int))))) fun v3=>if v3=true then(bU (some false)) else(some (.brk a0))) fun v1=>aI (U:=fF) (qY (Int.toNat (v1.2.1.2.2.2.1.length:Int)+1) (v1.2.1.2.2.2.1,(v1.2.1.2.2.2.1.length:Int),0,v1)) fun v4=>aI (U:=Int×fF) (Option.bind (α:=Bool) (if decide (v4.2.1.2.1<(0:Int)) then(some true) else(if decide ((v4.1.1.2.2.1.length:Int)≤v4.2.1.2.1) then(some true) else(if 0≤v4.2.1.2.1 then(if v4.2.1.2.1<(v4.1.1.2.2.1.length:Int) then(some (!decide ((v4.2.1.2.2.2.2.1.length:Int)=(bq ((List.length (nth bF v4.1.1.2.2.1 v4.2.1.2.1).2.2.2.2.1:Int) -(1:Int)))))) else none) else none))) fun v9=>if v9=true then(bU (some false)) else(some (.brk (v4.2.1.2.1,v4)))) fun⟨b,a⟩=>aI (U:=Zf) (kV (Int.toNat (a.2.1.2.2.2.2.1.length:Int)+1) (b,a.2.1.2.2.2.2.1,(a.2.1.2.2.2.2.1.length:Int),0,a,([]:Zf))) fun v10=>(f188 v10).bind fun y16=>some y16
def X7:SS:=⟨105,145,[tP 1 17],[(17,bV mh)],[]⟩
def afl:SS:=⟨105,145,[tP 1 17,tI 5],[(17,bV mh)],[]⟩
def afm:SS:=⟨105,145,[(6,.own 122)],[(122,.row 3 8 (.int .i64))],[]⟩
def afn:SS:=⟨105,145,[tP 1 17,(23,.val (.slice 120 aV)),tI 24,tI 25],[(17,bV mh)],[]⟩
def afo:SS:=⟨105,145,[tP 1 17,tI 5,(6,.own 121),(67,.val (.slice 80 bu)),tI 68,tI 69],[(17,bV mh),(121,.row 3 8 (.int .i64))],[]⟩
def afp:SS:=⟨105,145,[(2,vB)],[],[]⟩
def afq:aZ:=aF G [.tmp 2] 130 [.val mh] [] 145 afp [] (.br (u1 f130))
theorem afr:hS afq:=
 cO ⟨[hD 1 20 [cA 0],hA 6 1,hD 10 64 [],hA 16 2,hD 17 96 [cA 3],hA 21 4],[(3,X7),(9,X7),(12,afl),(21,afm)],[],[(4,⟨afn,fun u5=>Int.toNat u5.2.1+1⟩),(14,⟨afo,fun MN=>Int.toNat MN.2.2.1+1⟩)],[],[]⟩ (hq aeX (hq afc (hq ML (hq aff (hq afk hz))))) aJ Tryz.call130 Tryz.func130
def Bi(a0:dn)(a1:dw):Zm:=
 (f130 (a1,a0,())).bind fun y1=>some y1
def afs:SS:=⟨8,48,[(3,vB)],[],[]⟩
def Qd:aZ:=aF G [.tmp 3] 129 [.val bG,.cc iK] [] 48 afs [] (.br (u2 Bi))
theorem Qe:hS Qd:=
 cO (hR [hA 1 0]) (hq afr hz) aJ Tryz.call129 Tryz.func129
def qZ(a0:dn)(a1:dw):SU:=
 (Bi a0 a1).bind fun y1=>some (!y1,a1)
def SQ:List (Nat×db):=[(0,.var (.aT .func) (.func 129 .nil (.cons (.cc iK) .nil)))]
def aft:SS:=⟨8,48,[(3,vB)],SQ,[]⟩
def Qf:aZ:=aF G [.tmp 3] 194 [.val bG,pP 0] SQ 48 aft [0] (.br (u2 qZ))
theorem Qg:hS Qf:=
 cO (hR [hA 1 0]) (hq Qe hz) aJ Tryz.call194 Tryz.func194
def F7:Nat→Zo×Int×Ed→Option (cK dw Ed):=aL fun amb ⟨e,d,c,f⟩=>if decide (c<d) then(if 0≤c then(if c<(e.length:Int) then((qZ (nth bG e c) f).bind fun⟨a,b⟩=>if a=true then(bU (some (c,b))) else(amb (e,d,bq (c+1),b))) else none) else none) else(some (.brk f))
def Bj(a0:Zo)(a1:dw):Option Ed:=
 aI (U:=dw) (F7 (Int.toNat (a0.length:Int)+1) (a0,(a0.length:Int),0,a1)) fun v1=>some ((-1:Int),v1)
def afu:SS:=⟨19,59,[],SQ,[]⟩
def afv:SS:=⟨19,59,[(0,.val (.slice 96 bG)),(1,.func 194 .nil (.cons (pP 0) .nil)),tI 7,tI 8],SQ,[]⟩
def afw:SS:=⟨19,59,[tI 4],SQ,[]⟩
def Qh:aZ:=aF G [.tmp 4] 249 [.val (.slice 96 bG),.func 194 .nil (.cons (pP 0) .nil)] SQ 59 afw [0] (.br (u2 Bj))
theorem Qi:hS Qh:=
 cO ⟨[hE 4 [cB 0 [(0,0)] []]],[(7,afu)],[],[(2,⟨afv,fun u2=>Int.toNat u2.2.1+1⟩)],[],[]⟩ (hq Qg hz) aJ Tryz.call249 Tryz.func249
def Bk(a0:Zo)(a1:dw):SU:=
 (Bj a0 a1).bind fun⟨a,b⟩=>some (decide ((0:Int)≤a),b)
def afx:SS:=⟨9,49,[(4,vB)],SQ,[]⟩
def Qj:aZ:=aF G [.tmp 4] 193 [.val (.slice 96 bG),.func 194 .nil (.cons (pP 0) .nil)] SQ 49 afx [0] (.br (u2 Bk))
theorem Qk:hS Qj:=
 cO (hR [hE 1 [cB 0 [(0,0)] []]]) (hq Qi hz) aJ Tryz.call193 Tryz.func193
def uS(a0:Zo)(a1:dw):Zm:=
 (Bk a0 a1).bind fun⟨a,_⟩=>some (!a)
def Ql:aZ:=aF G [.tmp 4] 135 [.val (.slice 96 bG),.func 129 .nil (.cons (.cc iK) .nil)] [] 49 MK [] (.br (u2 uS))
theorem Qm:hS Ql:=
 cO (hR [hE 1 [cB 0 [(0,19)] []]]) (hq Qk hz) aJ Tryz.call135 Tryz.func135
def nZ:Nat→List pD×Int×Int×dw×ou→Option (cK ou Bool):=aL fun amb ⟨d,c,b,e,f⟩=>if decide (b<c) then(if 0≤b then(if b<(d.length:Int) then((f167 e (nth eW d b).2.2.1 (nth eW d b).2.2.2.1).bind fun⟨a,_⟩=>if !a then(bU (some false)) else(amb (d,c,bq (b+1),e,f))) else none) else none) else(some (.brk f))
def f137(a0:dw)(a1:ou):Zm:=
 aI (U:=ou) (nZ (Int.toNat (a1.2.1.length:Int)+1) (a1.2.1,(a1.2.1.length:Int),0,a0,a1)) fun v1=>Option.bind (α:=Bool) (if decide ((0:Int)≤v1.2.2.1) then(some (decide (v1.2.2.1≤(64:Int)))) else(some false)) fun v5=>some v5
def afy:SS:=⟨36,76,[tP 3 19],[(19,bV dJ)],[]⟩
def afz:SS:=⟨36,76,[tP 2 18,tP 3 19,(10,.val (.slice 48 eW)),tI 11,tI 12],[(18,bV iK),(19,bV dJ)],[]⟩
def afA:SS:=⟨36,76,[(4,vB)],[],[]⟩
def afB:aZ:=aF G [.tmp 4] 137 [.val iK,.val dJ] [] 76 afA [] (.br (u2 f137))
theorem afC:hS afB:=
 cO ⟨[hA 4 0,hD 8 4 []],[(8,afy)],[],[(2,⟨afz,fun u2=>Int.toNat u2.2.1+1⟩)],[],[]⟩ (hq ML hz) aJ Tryz.call137 Tryz.func137
def rf(a0:ou)(a1:dw):SU:=
 (f137 a1 a0).bind fun y1=>some (!y1,a1)
def SR:List (Nat×db):=[(0,.var (.aT .func) (.fq 137 iK))]
def afD:SS:=⟨8,48,[(3,vB)],SR,[]⟩
def Qn:aZ:=aF G [.tmp 3] 195 [.val dJ,pP 0] SR 48 afD [0] (.br (u2 rf))
theorem Qo:hS Qn:=
 cO (hR [hA 1 0]) (hq afC hz) aJ Tryz.call195 Tryz.func195
def F8:Nat→ZE×Int×Ed→Option (cK dw Ed):=aL fun amb ⟨e,d,c,f⟩=>if decide (c<d) then(if 0≤c then(if c<(e.length:Int) then((rf (nth dJ e c) f).bind fun⟨a,b⟩=>if a=true then(bU (some (c,b))) else(amb (e,d,bq (c+1),b))) else none) else none) else(some (.brk f))
def Bl(a0:ZE)(a1:dw):Option Ed:=
 aI (U:=dw) (F8 (Int.toNat (a0.length:Int)+1) (a0,(a0.length:Int),0,a1)) fun v1=>some ((-1:Int),v1)
def afE:SS:=⟨19,59,[],SR,[]⟩
def afF:SS:=⟨19,59,[(0,.val (.slice 48 dJ)),(1,.func 195 .nil (.cons (pP 0) .nil)),tI 7,tI 8],SR,[]⟩
def afG:SS:=⟨19,59,[tI 4],SR,[]⟩
def Qp:aZ:=aF G [.tmp 4] 243 [.val (.slice 48 dJ),.func 195 .nil (.cons (pP 0) .nil)] SR 59 afG [0] (.br (u2 Bl))
theorem Qq:hS Qp:=
 cO ⟨[hE 4 [cB 0 [(0,0)] []]],[(7,afE)],[],[(2,⟨afF,fun u2=>Int.toNat u2.2.1+1⟩)],[],[]⟩ (hq Qo hz) aJ Tryz.call243 Tryz.func243
def Bm(a0:ZE)(a1:dw):SU:=
 (Bl a0 a1).bind fun⟨a,b⟩=>some (decide ((0:Int)≤a),b)
def afH:SS:=⟨9,49,[(4,vB)],SR,[]⟩
def Qr:aZ:=aF G [.tmp 4] 183 [.val (.slice 48 dJ),.func 195 .nil (.cons (pP 0) .nil)] SR 49 afH [0] (.br (u2 Bm))
theorem Qs:hS Qr:=
 cO (hR [hE 1 [cB 0 [(0,0)] []]]) (hq Qq hz) aJ Tryz.call183 Tryz.func183
def uT(a0:ZE)(a1:dw):Zm:=
 (Bm a0 a1).bind fun⟨a,_⟩=>some (!a)
def Qt:aZ:=aF G [.tmp 4] 136 [.val (.slice 48 dJ),.fq 137 iK] [] 49 MK [] (.br (u2 uT))
theorem Qu:hS Qt:=
 cO (hR [hE 1 [cB 0 [(0,19)] []]]) (hq Qs hz) aJ Tryz.call136 Tryz.func136
def f100(a0:cp):ZV:=
 (f128 (a0,())).bind fun y1=>if !y1 then(some (2:Int)) else(Option.bind (α:=Bool) ((uO a0.2.1 (a0,())).bind fun y2=>if !y2 then(some true) else((uQ a0.2.2.1 (a0,())).bind fun y3=>if !y3 then(some true) else((uS a0.2.2.2.1 (a0,())).bind fun y4=>if !y4 then(some true) else((uT a0.2.2.2.2.2.1 (a0,())).bind fun y5=>some (!y5))))) fun v6=>if v6=true then(some (120:Int)) else(some (0:Int)))
def afI:SS:=⟨40,80,[tI 2],[],[]⟩
def afJ:aZ:=aF G [.tmp 2] 100 [.val iJ] [] 80 afI [] (.br (u1 f100))
theorem X8:hS afJ:=
 cO (hR [hA 2 0,hD 5 39 [cA 1,cA 2,cA 3,cA 4]]) (hq ad9 (hq P1 (hq Qc (hq Qm (hq Qu hz))))) aJ Tryz.call100 Tryz.func100
def f250(a0:Int)(a1:Int):Zm:=
 if 0≤a1 then(some (decide ((iz .and .u64 (Int.fdiv a0 (2^(min (Int.toNat a1) 64))) (1:Int))=(1:Int)))) else none
def afK:SS:=⟨10,50,[(4,vB)],[],[]⟩
def afL:aZ:=aF G [.tmp 4] 250 [.val (.int .u64),vI] [] 50 afK [] (.br (u2 f250))
theorem afM:hS afL:=
 cO (hR []) hz aJ Tryz.call250 Tryz.func250
def n9:Nat→Int×Int×Zf×Int×Int×xq→Option (cK (Int×Int×xq) Bool):=aL fun amb ⟨d,e,c,b,a,f⟩=>if decide (a<b) then(if 0≤a then(if a<(c.length:Int) then(Option.bind (α:=Bool) (if decide ((nth (.int .i64) c a)<(0:Int)) then(some true) else(if decide (d≤(nth (.int .i64) c a)) then(some true) else((f250 e (nth (.int .i64) c a)).bind fun y4=>some y4))) fun v5=>if v5=true then(bU (some false)) else(if 0≤(nth (.int .i64) c a) then(amb (d,iz .or .u64 e (IntKind.u64.wrap ((1:Int)*2^(min (Int.toNat (nth (.int .i64) c a)) 64))),c,b,bq (a+1),f)) else none)) else none) else none) else(some (.brk (d,e,f)))
def f196(a0:xq)(a1:Int):Zm:=
 aI (U:=Int×Int×xq) (n9 (Int.toNat (a0.2.2.1.length:Int)+1) (a1,0,a0.2.2.1,(a0.2.2.1.length:Int),0,a0)) fun⟨c,a,b⟩=>Option.bind (α:=Bool) (if !decide (a=(0:Int)) then(if decide ((0:Int)≤b.2.2.2.1) then(if decide (b.2.2.2.1<c) then((f250 a b.2.2.2.1).bind fun y6=>some (!y6)) else(some false)) else(some false)) else(some false)) fun v7=>some v7
def afN:SS:=⟨52,92,[tI 1,tP 2 18,(5,.val (.int .u64))],[(18,bV fv)],[]⟩
def afO:SS:=⟨52,92,[tI 1,tP 2 18,(5,.val (.int .u64)),(9,.val (.slice 8 (.int .i64))),tI 10,tI 11],[(18,bV fv)],[]⟩
def afP:SS:=⟨52,92,[(4,vB)],[],[]⟩
def afQ:aZ:=aF G [.tmp 4] 196 [.val fv,vI] [] 92 afP [] (.br (u2 f196))
theorem afR:hS afQ:=
 cO ⟨[hD 5 26 [cA 0],hD 9 4 [cA 0]],[(9,afN)],[],[(3,⟨afO,fun u2=>Int.toNat u2.2.2.2.1+1⟩)],[],[]⟩ (hq afM hz) aJ Tryz.call196 Tryz.func196
def ri:Nat→Gi×Int×Int×lL→Option (cK Unit Int):=aL fun amE ⟨c,b,a,d⟩=>if decide (a<b) then(if 0≤a then(if a<(c.length:Int) then((f196 (nth fv c a) (d.2.2.2.2.1.length:Int)).bind fun y6=>if !y6 then(bU (some (130:Int))) else(amE (c,b,bq (a+1),d))) else none) else none) else(some (.brk ()))
def f138(a0:lL):ZV:=
 aI (U:=lL) (Option.bind (α:=Bool) (if decide ((a0.2.2.2.2.1.length:Int)<(1:Int)) then(some true) else(if decide ((12:Int)<(a0.2.2.2.2.1.length:Int)) then(some true) else(some (decide ((12:Int)<(a0.2.2.2.2.2.1.length:Int)))))) fun v2=>if v2=true then(bU (some (130:Int))) else(some (.brk a0))) fun v1=>aI (U:=Unit) (ri (Int.toNat (v1.2.2.2.2.2.1.length:Int)+1) (v1.2.2.2.2.2.1,(v1.2.2.2.2.2.1.length:Int),0,v1)) fun _=>some (0:Int)
def afS:SS:=⟨35,75,[tP 1 17],[(17,bV bF)],[]⟩
def afT:SS:=⟨35,75,[],[],[]⟩
def afU:SS:=⟨35,75,[tP 1 17,(22,.val (.slice 72 fv)),tI 23,tI 24],[(17,bV bF)],[]⟩
def afV:SS:=⟨35,75,[tI 2],[],[]⟩
def afW:aZ:=aF G [.tmp 2] 138 [.val bF] [] 75 afV [] (.br (u1 f138))
theorem afX:hS afW:=
 cO ⟨[hD 1 20 [],hA 6 0],[(3,afS),(9,afT)],[],[(4,⟨afU,fun u4=>Int.toNat u4.2.1+1⟩)],[],[]⟩ (hq afR hz) aJ Tryz.call138 Tryz.func138
def Bn:Nat→ZG×xX→Option (cK Unit Int):=aL fun amb ⟨c,b,a⟩=>if decide (a<b) then(if 0≤a then(if a<(c.length:Int) then((f138 (nth bF c a)).bind fun y4=>if !decide (y4=(0:Int)) then(bU (some y4)) else(amb (c,b,bq (a+1)))) else none) else none) else(some (.brk ()))
def f101(a0:cp):ZV:=
 aI (U:=Unit) (Bn (Int.toNat (a0.2.2.1.length:Int)+1) (a0.2.2.1,(a0.2.2.1.length:Int),0)) fun _=>some (0:Int)
def afY:SS:=⟨19,59,[],[],[]⟩
def afZ:SS:=⟨19,59,[(7,.val (.slice 96 bF)),tI 8,tI 9],[],[]⟩
def af6:SS:=⟨19,59,[tI 2],[],[]⟩
def af7:aZ:=aF G [.tmp 2] 101 [.val iJ] [] 59 af6 [] (.br (u1 f101))
theorem af8:hS af7:=
 cO ⟨[hA 4 0],[(8,afY)],[],[(2,⟨afZ,fun u2=>Int.toNat u2.2.1+1⟩)],[],[]⟩ (hq afX hz) aJ Tryz.call101 Tryz.func101
def rj(a0:Int)(a1:Int)(a2:ZO):Option (Bool×ZO):=
 Option.bind (α:=Bool) (if decide ((0:Int)≤a1) then(some (decide (a1<a0))) else(some false)) fun v1=>some (v1,a2)
def X9:List (Nat×db):=[(0,.pmap (.int .i64) (.map (.int .i64) .bool) 0)]
def af9:SS:=⟨13,53,[(4,vB)],X9,[]⟩
def Qv:aZ:=aF G [.tmp 4] 199 [.cons vI (.cons (.mp 0) .nil),vI] X9 53 af9 [0] (.br (u3 rj))
theorem Qw:hS Qv:=
 cO (hR [hD 1 4 []]) hz aJ Tryz.call199 Tryz.func199
def kW:Nat→Zo×Int×Int×Zy×Int×Int×Int×dn×ZO→Option (cK (Zo×Int×Int×Int×ZO) (cK (Int×ZO) (Int×dK))):=aL fun rec8 ⟨i,j,k,e,d,c,f,h,g⟩=>if decide (c<d) then(if 0≤c then(if c<(e.length:Int) then((rj f (nth aP e c).2.2.1 g).bind fun⟨a,b⟩=>if !a then(bU (bU (some (140,0,(none:Option ZO),())))) else(if bT (.int .i64) h.2.1 b=true then(if bl (.int .i64) h.2.1 h.2.1=true then(if List.length (aY (aQ (.int .i64) (.map (.int .i64) .bool) h.2.1 b))+1≤aH then(rec8 (i,j,k,e,d,bq (c+1),f,h,aX (.int .i64) h.2.1 (some (aX (.int .i64) (nth aP e c).2.2.1 true (aY (aQ (.int .i64) (.map (.int .i64) .bool) h.2.1 b)))) b)) else none) else none) else none)) else none) else none) else(some (.brk (i,j,k,f,g)))
def oc:Nat→Zo×Int×Int×Int×ZO→Option (cK (Int×ZO) (Int×dK)):=aL fun amb ⟨p,o,n,q,r⟩=>if decide (n<o) then(aI (U:=Zo×Int×Int×Int×ZO) (if 0≤n then(if n<(p.length:Int) then((rj q (nth bG p n).2.1 r).bind fun⟨a,b⟩=>if !a then(bU (bU (some (140,0,(none:Option ZO),())))) else(aI (U:=Zo×Int×Int×Int×dn×ZO) (if !(bT (.int .i64) (nth bG p n).2.1 b) then(if bT (.int .i64) (nth bG p n).2.1 b=false then(if bl (.int .i64) (nth bG p n).2.1 (nth bG p n).2.1=true then(if b.length+1≤aH then(some (.brk (p,o,n,q,nth bG p n,aX (.int .i64) (nth bG p n).2.1 (some ([]:Zu)) (aX (.int .i64) (nth bG p n).2.1 (Ty.aD (.map (.int .i64) .bool)) b)))) else none) else none) else none) else(some (.brk (p,o,n,q,nth bG p n,b)))) fun⟨d,e,f,g,c,h⟩=>kW (Int.toNat (c.2.2.1.length:Int)+1) (d,e,f,c.2.2.1,(c.2.2.1.length:Int),0,g,c,h))) else none) else none) fun⟨i,j,k,l,m⟩=>amb (i,j,bq (k+1),l,m)) else(some (.brk (q,r)))
def f142(a0:cp):Option (Int×dK):=
 aI (U:=Int×ZO) (oc (Int.toNat (a0.2.2.2.1.length:Int)+1) (a0.2.2.2.1,(a0.2.2.2.1.length:Int),0,(a0.2.2.1.length:Int),([]:ZO))) fun⟨a,b⟩=>some (0,a,some b,())
def Ya:List (Nat×db):=[(18,.var ot (.cons vI (.cons (.mp 27) .nil))),(21,bV bG),(27,.pmap (.int .i64) (.map (.int .i64) .bool) 0)]
def aga:SS:=⟨60,100,[tP 2 18,tP 5 21,(14,.val (.slice 96 bG)),tI 15,tI 16],Ya,[]⟩
def Yb:List (Nat×db):=[(18,.var ot (.cons vI (.cons (.mp 27) .nil))),(27,.pmap (.int .i64) (.map (.int .i64) .bool) 0)]
def Yd:SS:=⟨60,100,[tP 2 18,(14,.val (.slice 96 bG)),tI 15,tI 16],Yb,[]⟩
def agb:SS:=⟨60,100,[tP 2 18],Yb,[]⟩
def agc:SS:=⟨60,100,[tP 2 18,tP 5 21,(14,.val (.slice 96 bG)),tI 15,tI 16,(38,.val (.slice 96 aP)),tI 39,tI 40],Ya,[]⟩
def agd:SS:=⟨60,100,[tP 2 18,tI 3],[(18,bV ot)],[]⟩
def age:aZ:=aF G [.cell 2 260,.tmp 3] 142 [.val iJ] [] 100 agd [] (.br (u1 f142))
theorem agf:hS age:=
 cO ⟨[(2,⟨[.ND 27 0],[],[],none,[],[],[]⟩),hE 5 [cB 0 [(0,27)] []],(8,⟨[],[],[],none,[],[.map 0 27 0 (.c 5 [.cw 1])],[.mU 27]⟩),hE 12 [cB 0 [(0,27)] []],(14,⟨[],[],[],none,[],[.map 1 27 76 (.c 5 [.cw 1])],[.mU 27]⟩),(17,⟨[.Mm 27],[],[],none,[],[],[]⟩)],[(9,aga),(16,Yd),(17,agb)],[],[(3,⟨Yd,fun u2=>Int.toNat u2.2.1+1⟩),(10,⟨agc,fun u7=>Int.toNat u7.2.2.2.2.1+1⟩)],[],[]⟩ (hq Qw hz) aJ Tryz.call142 Tryz.func142
def Bo(a0:dK):Option dK:=
 some a0
def agh:SS:=⟨4,44,[(2,.func 201 .nil (.cons (pP 17) .nil))],[(17,bV ot)],[]⟩
def Qx:aZ:=aF G [.tmp 2] 144 [.val ot] [] 44 agh [17] (.br (u1 Bo))
theorem Qz:hS Qx:=
 cO (hR []) hz aJ Tryz.call144 Tryz.func144
def hJ:Nat→Int×Int×Int×dK×ZY×Zu→Option (cK (Int×Int×dK×ZY) (cK ZY ZY)):=aL fun rec6 ⟨f,b,c,d,e,a⟩=>if List.isEmpty a=true then(some (.brk (b,c,d,e))) else tY a fun x7 l8=>if 0≤x7.1 then(if x7.1<(e.length:Int) then(if 0≤x7.1 then(if Int.toNat x7.1=(Int.toNat x7.1) then(if(List.length (List.getD e (Int.toNat x7.1) [])+List.length [f])*8≤aH then(if 0≤x7.1 then(if Int.toNat x7.1=(Int.toNat x7.1) then(rec6 (f,b,c,d,List.set e (Int.toNat x7.1) ((List.getD e (Int.toNat x7.1) [])++[f]),l8)) else none) else none) else none) else none) else none) else none) else none
def jo:Nat→Int×Int×dK×ZY→Option (cK ZY ZY):=aL fun amb ⟨f,e,g,h⟩=>if decide (e<f) then(aI (U:=Int×Int×dK×ZY) (hJ (List.length (aY (aQ (.int .i64) (.map (.int .i64) .bool) e (aY g.2.1)))+1) (e,f,e,g,h,aY (aQ (.int .i64) (.map (.int .i64) .bool) e (aY g.2.1)))) fun⟨a,b,c,d⟩=>amb (a,bq (b+1),c,d)) else(some (.brk h))
def f202(a0:dK):Option ZY:=
 if 0≤a0.1 then(if a0.1≤a0.1 then(if a0.1*(24:Int)≤(aH:Int) then(aI (U:=ZY) (jo (Int.toNat a0.1+1) (a0.1,0,a0,List.replicate (Int.toNat a0.1) [])) fun v1=>some v1) else none) else none) else none
def Ye:SS:=⟨35,75,[tP 1 17,(3,.own 24),tI 10,tI 11],[(17,bV ot),(24,.cQ 30 24 (.slice 8 (.int .i64)) 3)],[]⟩
def agi:SS:=⟨35,75,[(3,.own 24)],[(24,.cQ 30 24 (.slice 8 (.int .i64)) 3)],[]⟩
def agj:SS:=⟨35,75,[tP 1 17,(3,.own 24),tI 4,tI 10,tI 11,tP 18 34],[(17,bV ot),(24,.cQ 30 24 (.slice 8 (.int .i64)) 3),(34,.kq (.int .i64) .bool)],[]⟩
def agk:SS:=⟨35,75,[(2,.val (.slice 24 (.slice 8 (.int .i64))))],[],[]⟩
def Yf:aZ:=aF G [.tmp 2] 202 [.val ot] [] 75 agk [] (.br (u1 f202))
theorem agl:hS Yf:=
 cO ⟨[(8,⟨[],[],[],none,[],[.row 24 51 (.t 5)],[.qM 24]⟩),(10,⟨[.Mm 24],[],[],none,[],[],[]⟩)],[(9,Ye),(10,agi)],[],[(3,⟨Ye,fun u2=>Int.toNat u2.1+1⟩),(6,⟨agj,fun u5=>List.length u5.2.2.2.2.2+1⟩)],[],[]⟩ hz aJ Tryz.call202 Tryz.func202
def rm(a0:Zf):Option (Int×Zf):=
 some ((a0.length:Int),a0)
def agm:SS:=⟨5,45,[tI 2],[(0,.row 3 8 (.int .i64))],[]⟩
def QA:aZ:=aF G [.tmp 2] 204 [.own 0] [(0,.row 3 8 (.int .i64))] 45 agm [0] (.br (u1 rm))
theorem Ia:hS QA:=
 cO (hR []) hz aJ Tryz.call204 Tryz.func204
def lH(a0:Int)(a1:Int)(a2:Zf):Option (Bool×Zf):=
 if 0≤a0 then(if a0<(a2.length:Int) then(if 0≤a1 then(if a1<(a2.length:Int) then(some (decide ((nth (.int .i64) a2 a0)<(nth (.int .i64) a2 a1)),a2)) else none) else none) else none) else none
def agn:SS:=⟨16,56,[(6,vB)],[(0,.row 3 8 (.int .i64))],[]⟩
def QB:aZ:=aF G [.tmp 6] 280 [.own 0,vI,vI] [(0,.row 3 8 (.int .i64))] 56 agn [0] (.br (u3 lH))
theorem Ib:hS QB:=
 cO (hR []) hz aJ Tryz.call280 Tryz.func280
def lJ(a0:Int)(a1:Int)(a2:Zf):Option Zf:=
 if 0≤a1 then(if a1<(a2.length:Int) then(if 0≤a0 then(if a0<(a2.length:Int) then(if 0≤a0 then(if a0<(a2.length:Int) then(if 0≤a1 then(if a1<(List.length (List.set a2 (Int.toNat a0) (nth (.int .i64) a2 a1)):Int) then(some (List.set (List.set a2 (Int.toNat a0) (nth (.int .i64) a2 a1)) (Int.toNat a1) (nth (.int .i64) a2 a0))) else none) else none) else none) else none) else none) else none) else none) else none
def ago:SS:=⟨20,60,[],[(0,.row 3 8 (.int .i64))],[]⟩
def QC:aZ:=aF G [] 284 [.own 0,vI,vI] [(0,.row 3 8 (.int .i64))] 60 ago [0] (.br (u3 lJ))
theorem Bp:hS QC:=
 cO (hR []) hz aJ Tryz.call284 Tryz.func284
def pC:Nat→Int×Zf→Option (cK Zf Zf):=aL fun amb ⟨c,d⟩=>if decide ((bq (Int.tdiv (bq (c -(1:Int))) (2:Int)))=c) then(some (.brk d)) else((lH c (bq (Int.tdiv (bq (c -(1:Int))) (2:Int))) d).bind fun⟨a,b⟩=>if !a then(some (.brk b)) else((lJ (bq (Int.tdiv (bq (c -(1:Int))) (2:Int))) c b).bind fun y5=>amb (bq (Int.tdiv (bq (c -(1:Int))) (2:Int)),y5)))
def Bq(a0:Int)(a1:Zf):Option Zf:=
 aI (U:=Zf) (pC iw (a0,a1)) fun v1=>some v1
def JB:List (Nat×db):=[(0,.var sH (.cons (.own 1) .nil)),(1,.row 3 8 (.int .i64))]
def Yg:SS:=⟨23,63,[],JB,[]⟩
def agp:SS:=⟨23,63,[(0,.iface 333 (pP 0)),tI 1],JB,[]⟩
def QD:aZ:=aF G [] 251 [.iface 333 (pP 0),vI] JB 63 Yg [0,1] (.br (u2 Bq))
theorem QE:hS QD:=
 cO ⟨[hE 1 [cB 0 [(0,1)] []],hE 2 [cB 1 [(0,1)] []]],[],[(0,Yg)],[(0,⟨agp,fun _=>iw⟩)],[],[]⟩ (hq Ib (hq Bp hz)) aJ Tryz.call251 Tryz.func251
def Br(a0:Int)(a1:Zf):Option Zf:=
 if(List.length a1+List.length [a0])*8≤aH then(some (a1++[a0])) else none
def agq:SS:=⟨22,62,[],[(0,.var sH (.cons (.own 35) .nil)),(35,.row 3 8 (.int .i64))],[]⟩
def QF:aZ:=aF G [] 282 [pP 0,.iface 3 vI] JB 62 agq [0,35] (.br (u2 Br))
theorem QG:hS QF:=
 cO (hR []) hz aJ Tryz.call282 Tryz.func282
def rp(a0:Int)(a1:Zf):Option Zf:=
 (Br a0 a1).bind fun y1=>(rm y1).bind fun⟨a,b⟩=>(Bq (bq (a -(1:Int))) b).bind fun y3=>some y3
def agr:SS:=⟨12,52,[],[(0,.var sH (.cons (.own 22) .nil)),(22,.row 3 8 (.int .i64))],[]⟩
def Ic:aZ:=aF G [] 203 [.iface 333 (pP 0),.iface 3 vI] JB 52 agr [0,22] (.br (u2 rp))
theorem QH:hS Ic:=
 cO (hR [hE 0 [cB 0 [(0,0),(1,1)] [(35,22)]],hE 1 [cB 1 [(0,22)] [],cB 2 [(0,0),(1,22)] []]]) (hq QG (hq Ia (hq QE hz))) aJ Tryz.call203 Tryz.func203
end Go.Proofs.YtpmlkhjpbjnagaaGreat
