/- part -/
import Derived.Test.YtpmlkhjpbjnagaaGreatUO
noncomputable section
namespace Go.Proofs.YtpmlkhjpbjnagaaGreat
open Go.Ax
def f104(a0:cu):Option (Ze×Bool×Int):=
 (f142 a0).bind fun⟨a,b⟩=>if !decide (a=(0:Int)) then(some (([]:Ze),false,a)) else((BA b).bind fun y2=>(rO y2).bind fun y3=>if decide ((y3.length:Int)<b.1) then(some (([]:Ze),false,0)) else(some (y3,true,0)))
def aaz:SS:=⟨23,63,[(2,.val (.slice 8 (.int .i64))),(3,vB),tI 4],[],[]⟩
def aaA:aZ:=aG G [.tmp 2,.tmp 3,.tmp 4] 104 [.val iK] [] 63 aaz [] (.bq (u1 f104))
theorem S9:hS aaA:=
 cO (hR [hA 1 0,(4,⟨[],[(2,15,.aT .func)],[⟨[1],[],[(17,31)],[],[]⟩,⟨[2],[],[],[],[]⟩],none,[],[],[]⟩)]) (hq agv (hq QF (hq M0 hz))) aK Tryz.call104 Tryz.func104
def f139(a0:cu):ZU:=
 (f100 a0).bind fun y1=>if !decide (y1=(0:Int)) then(some y1) else((f104 a0).bind fun⟨_,b,a⟩=>if !decide (a=(0:Int)) then(some a) else(if !b then(some (141:Int)) else(some (0:Int))))
def aaB:SS:=⟨22,62,[tI 2],[],[]⟩
def aaC:aZ:=aG G [.tmp 2] 139 [.val iK] [] 62 aaB [] (.bq (u1 f139))
theorem aaD:hS aaC:=
 cO (hR [hA 1 0,hA 4 1]) (hq Yy (hq S9 hz)) aK Tryz.call139 Tryz.func139
def pg:Nat→Ze×Int×Ze×Int×Int×Zu→Option (cJ (Ze×Int×Zu) (Bool×Zu)):=aL fun al4 ⟨e,f,c,b,a,d⟩=>if decide (a<b) then(if 0≤a then(if a<(c.length:Int) then(if(aP (.int .i64) .bool (nth (.int .i64) c a) d)=true then(bX (some (false,d))) else(if d.length+1≤aH then(al4 (e,f,c,b,bp (a+1),aY (.int .i64) (nth (.int .i64) c a) true d)) else none)) else none) else none) else(some (.brk (e,f,d)))
def z8(a0:Ze)(a1:Int)(a2:Zu):Option (Bool×Zu):=
 aI (U:=Ze×Int×Zu) (pg (Int.toNat (a0.length:Int)+1) (a0,a1,a0,(a0.length:Int),0,a2)) fun⟨a,b,c⟩=>some (decide ((a.length:Int)=b),c)
def aaE:SS:=⟨25,65,[(1,.val (.slice 8 (.int .i64))),tI 2],[(0,.map (.int .i64) .bool)],[]⟩
def aaF:SS:=⟨25,65,[(0,.mp 0),(1,.val (.slice 8 (.int .i64))),tI 2,(9,.val (.slice 8 (.int .i64))),tI 10,tI 11],[(0,.map (.int .i64) .bool)],[]⟩
def aaG:SS:=⟨25,65,[(6,vB)],[(0,.map (.int .i64) .bool)],[]⟩
def NK:aZ:=aG G [.tmp 6] 140 [.mp 0,.val (.slice 8 (.int .i64)),vI] [(0,.map (.int .i64) .bool)] 65 aaG [0] (.bq (u3 z8))
theorem NL:hS NK:=
 cO ⟨[],[(8,aaE)],[],[(2,⟨aaF,fun u2=>Int.toNat u2.2.2.2.1+1⟩)],[],[]⟩ hz aK Tryz.call140 Tryz.func140
def f102(a0:cu):ZU:=
 (f139 a0).bind fun y1=>if !decide (y1=(0:Int)) then(some y1) else((f104 a0).bind fun⟨c,b,a⟩=>if !decide (a=(0:Int)) then(some a) else(if !b then(some (141:Int)) else((z8 c (a0.2.2.1.length:Int) ([]:Zu)).bind fun⟨d,_⟩=>if !d then(some (141:Int)) else(some (0:Int)))))
def aaH:SS:=⟨31,71,[tI 2],[],[]⟩
def aaI:aZ:=aG G [.tmp 2] 102 [.val iK] [] 71 aaH [] (.bq (u1 f102))
theorem aaJ:hS aaI:=
 cO (hR [hA 1 0,hA 4 1,hE 7 [cB 2 [(0,39)] []]]) (hq aaD (hq S9 (hq NL hz))) aK Tryz.call102 Tryz.func102
def f122(a0:cu)(a1:Int)(a2:Int)(a3:Int):Zl:=
 (f167 (a0,()) a1 a2).bind fun⟨a,b⟩=>Option.bind (α:=Bool) (if a=true then((f168 (a0,()) b).bind fun y2=>if y2=true then(if decide (b.2.1≤a3) then(some (decide (a3≤b.2.2.1))) else(some false)) else(some false)) else(some false)) fun v3=>some v3
def aaK:SS:=⟨38,78,[(8,vB)],[],[]⟩
def aaL:aZ:=aG G [.tmp 8] 122 [.val iK,vI,vI,vI] [] 78 aaK [] (.bq (u4 f122))
theorem WH:hS aaL:=
 cO (hR [hA 2 0,hD 3 8 [cA 1]]) (hq MT (hq UH hz)) aK Tryz.call122 Tryz.func122
def nJ:Nat→Int×ZH×ZH×Int×Int×cu→Option (cJ ZH Bool):=aL fun amx ⟨e,f,c,b,a,d⟩=>if decide (a<b) then(if 0≤a then(if a<(c.length:Int) then((f122 d e a (nth bO c a).2.1.2.1).bind fun y6=>if !y6 then(bX (some false)) else(amx (e,f,c,b,bp (a+1),d))) else none) else none) else(some (.brk f))
def f197(a0:cu)(a1:Int):Zl:=
 aI (U:=Int×cu) (Option.bind (α:=Bool) (if decide (a1<(0:Int)) then(some true) else(some (decide ((a0.2.2.1.length:Int)≤a1)))) fun v2=>if v2=true then(bX (some false)) else(some (.brk (a1,a0)))) fun⟨a,b⟩=>if 0≤a then(if a<(b.2.2.1.length:Int) then(aI (U:=ZH) (nJ (Int.toNat (List.length (nth bF b.2.2.1 a).2.2.2.2.1:Int)+1) (a,(nth bF b.2.2.1 a).2.2.2.2.1,(nth bF b.2.2.1 a).2.2.2.2.1,(List.length (nth bF b.2.2.1 a).2.2.2.2.1:Int),0,b)) fun v3=>Option.bind (α:=Bool) (if decide ((0:Int)<(v3.length:Int)) then(if(0:Int)<(v3.length:Int) then(some (decide ((nth bO v3 (0:Int)).2.1.1=(3:Int)))) else none) else(some false)) fun v7=>some v7) else none) else none
def aaM:SS:=⟨50,90,[tI 1,tP 2 18],[(18,bV iK)],[]⟩
def aaN:SS:=⟨50,90,[(5,.val (.slice 120 bO))],[],[]⟩
def aaO:SS:=⟨50,90,[tI 1,tP 2 18,(5,.val (.slice 120 bO)),(23,.val (.slice 120 bO)),tI 24,tI 25],[(18,bV iK)],[]⟩
def aaP:SS:=⟨50,90,[(4,vB)],[],[]⟩
def aaQ:aZ:=aG G [.tmp 4] 197 [.val iK,vI] [] 90 aaP [] (.bq (u2 f197))
theorem aaR:hS aaQ:=
 cO ⟨[hD 1 16 [],hA 7 0,hD 10 4 []],[(3,aaM),(10,aaN)],[],[(5,⟨aaO,fun u4=>Int.toNat u4.2.2.2.1+1⟩)],[],[]⟩ (hq WH hz) aK Tryz.call197 Tryz.func197
def f198(a0:dG)(a1:dG)(a2:Int):Zl:=
 if !decide (a0.1=a1.1) then(some false) else(aI (U:=Int×dG×dG) (Option.bind (α:=Bool) (if decide (a0.1=(1:Int)) then(some true) else(some (decide (a0.1=(2:Int))))) fun v2=>if v2=true then(Option.bind (α:=Bool) (if decide (a1.2.1=(bp (a0.2.1+a2))) then(if decide (a1.2.2.1=(bp (a0.2.2.1+a2))) then(some (decide (a0.2.2.2.2.1=a1.2.2.2.2.1))) else(some false)) else(some false)) fun v3=>bX (some v3)) else(some (.brk (a2,a0,a1)))) fun⟨a,b,c⟩=>Option.bind (α:=Bool) (if decide (a=(0:Int)) then(if decide (b.2.1=c.2.1) then(if decide (b.2.2.1=c.2.2.1) then(some (decide ((b.2.2.2.2.2.1.length:Int)=(c.2.2.2.2.2.1.length:Int)))) else(some false)) else(some false)) else(some false)) fun v4=>some v4)
def aaS:SS:=⟨68,108,[tI 2,tP 3 19,tP 4 20],[(19,bV fD),(20,bV fD)],[]⟩
def aaT:SS:=⟨68,108,[(6,vB)],[],[]⟩
def aaU:aZ:=aG G [.tmp 6] 198 [.val fD,.val fD,vI] [] 108 aaT [] (.bq (u3 f198))
theorem aaV:hS aaU:=
 cO ⟨[hD 3 19 [],hD 4 6 [],hD 5 6 []],[(5,aaS)],[],[],[],[]⟩ hz aK Tryz.call198 Tryz.func198
def qe:Nat→ZH×ZH×Zw×Int×Int×List Bool×List Bool→Zs:=aL fun rec9 ⟨l,m,k,j,i,n,o⟩=>if decide (i<j) then(if 0≤i then(if i<(k.length:Int) then(aI (U:=ZH×ZH×Zw×Int×Int×gQ×List Bool×List Bool) (Option.bind (α:=Bool) (if decide ((nth aU k i).2.2.2.1<(1:Int)) then(some true) else(if decide ((l.length:Int)≤(nth aU k i).2.2.2.1) then(some true) else(if decide ((nth aU k i).2.2.1<(1:Int)) then(some true) else(if decide ((m.length:Int)≤(nth aU k i).2.2.1) then(some true) else(if 0≤(nth aU k i).2.2.2.1 then(if(nth aU k i).2.2.2.1<(n.length:Int) then(if(nth .bool n (nth aU k i).2.2.2.1)=true then(some true) else(if 0≤(nth aU k i).2.2.1 then(if(nth aU k i).2.2.1<(o.length:Int) then(some (nth .bool o (nth aU k i).2.2.1)) else none) else none)) else none) else none))))) fun v11=>if v11=true then(bX (bX (some false))) else(some (.brk (l,m,k,j,i,nth aU k i,n,o)))) fun⟨d,e,f,g,h,a,b,c⟩=>if 0≤a.2.2.2.1 then(if a.2.2.2.1<(b.length:Int) then(if 0≤a.2.2.1 then(if a.2.2.1<(c.length:Int) then(if 0≤a.2.2.2.1 then(if a.2.2.2.1<(d.length:Int) then(if 0≤a.2.2.1 then(if a.2.2.1<(e.length:Int) then((f198 (nth bO d a.2.2.2.1).2.1 (nth bO e a.2.2.1).2.1 a.2.2.2.2.1).bind fun y12=>if !y12 then(bX (some false)) else(rec9 (d,e,f,g,bp (h+1),List.set b (Int.toNat a.2.2.2.1) true,List.set c (Int.toNat a.2.2.1) true))) else none) else none) else none) else none) else none) else none) else none) else none) else none) else none) else(some (.brk ()))
def f141(a0:cu)(a1:sW):Zl:=
 aI (U:=cu×sW) (Option.bind (α:=Bool) (if decide (a1.2.2.1=a1.2.2.2.1) then(some true) else((f197 a0 a1.2.2.1).bind fun y2=>if !y2 then(some true) else((f197 a0 a1.2.2.2.1).bind fun y3=>some (!y3)))) fun v4=>if v4=true then(bX (some false)) else(some (.brk (a0,a1)))) fun⟨b,a⟩=>if 0≤a.2.2.1 then(if a.2.2.1<(b.2.2.1.length:Int) then(if 0≤a.2.2.2.1 then(if a.2.2.2.1<(b.2.2.1.length:Int) then(aI (U:=ZH×ZH×sW) (Option.bind (α:=Bool) (if !decide ((a.2.2.2.2.1.length:Int)=(bp ((List.length (nth bF b.2.2.1 a.2.2.1).2.2.2.2.1:Int) -(1:Int)))) then(some true) else(some (!decide ((a.2.2.2.2.1.length:Int)=(bp ((List.length (nth bF b.2.2.1 a.2.2.2.1).2.2.2.2.1:Int) -(1:Int))))))) fun v6=>if v6=true then(bX (some false)) else(some (.brk ((nth bF b.2.2.1 a.2.2.1).2.2.2.2.1,(nth bF b.2.2.1 a.2.2.2.1).2.2.2.2.1,a)))) fun⟨c,d,e⟩=>if 0≤(c.length:Int) then(if(c.length:Int)≤(c.length:Int) then(if(c.length:Int)*(1:Int)≤(aH:Int) then(if 0≤(d.length:Int) then(if(d.length:Int)≤(d.length:Int) then(if(d.length:Int)*(1:Int)≤(aH:Int) then(aI (U:=Unit) (qe (Int.toNat (e.2.2.2.2.1.length:Int)+1) (c,d,e.2.2.2.2.1,(e.2.2.2.2.1.length:Int),0,List.replicate (Int.toNat (c.length:Int)) false,List.replicate (Int.toNat (d.length:Int)) false)) fun _v7=>some true) else none) else none) else none) else none) else none) else none) else none) else none) else none) else none
def aaW:SS:=⟨134,174,[tP 2 18,tP 3 19],[(18,bV iK),(19,bV gw)],[]⟩
def aaX:SS:=⟨134,174,[tP 3 19,(5,.val (.slice 120 bO)),(6,.val (.slice 120 bO))],[(19,bV gw)],[]⟩
def aaY:SS:=⟨134,174,[(5,.val (.slice 120 bO)),(6,.val (.slice 120 bO)),(7,.own 78),(8,.own 81),tP 10 26,(67,.val (.slice 56 aU)),tI 68,tI 69],[(26,bV aU),(78,.row 4 1 .bool),(81,.row 4 1 .bool)],[]⟩
def aaZ:SS:=⟨134,174,[],[],[]⟩
def aa0:SS:=⟨134,174,[(5,.val (.slice 120 bO)),(6,.val (.slice 120 bO)),(7,.own 78),(8,.own 81),(67,.val (.slice 56 aU)),tI 68,tI 69],[(78,.row 4 1 .bool),(81,.row 4 1 .bool)],[]⟩
def aa1:SS:=⟨134,174,[(4,vB)],[],[]⟩
def aa2:aZ:=aG G [.tmp 4] 141 [.val iK,.val gw] [] 174 aa1 [] (.bq (u2 f141))
theorem aa3:hS aa2:=
 cO ⟨[hD 1 29 [cA 0,cA 0],hD 4 59 [],hD 10 108 [],hA 13 1],[(3,aaW),(6,aaX),(12,aaY),(16,aaZ)],[],[(8,⟨aa0,fun u8=>Int.toNat u8.2.2.2.1+1⟩)],[],[]⟩ (hq aaR (hq aaV hz)) aK Tryz.call141 Tryz.func141
def Aa:Nat→ZJ×Int×Int×cu→Option (cJ Unit Int):=aL fun al4 ⟨c,b,a,d⟩=>if decide (a<b) then(if 0≤a then(if a<(c.length:Int) then((f141 d (nth gw c a)).bind fun y4=>if !y4 then(bX (some (150:Int))) else(al4 (c,b,bp (a+1),d))) else none) else none) else(some (.brk ()))
def f103(a0:cu):ZU:=
 aI (U:=Unit) (Aa (Int.toNat (a0.2.2.2.2.1.length:Int)+1) (a0.2.2.2.2.1,(a0.2.2.2.2.1.length:Int),0,a0)) fun _v1=>some (0:Int)
def aa4:SS:=⟨17,57,[],[],[]⟩
def aa5:SS:=⟨17,57,[tP 1 17,(6,.val (.slice 72 gw)),tI 7,tI 8],[(17,bV iK)],[]⟩
def aa6:SS:=⟨17,57,[tI 2],[],[]⟩
def aa7:aZ:=aG G [.tmp 2] 103 [.val iK] [] 57 aa6 [] (.bq (u1 f103))
theorem aa8:hS aa7:=
 cO ⟨[hA 4 0],[(7,aa4)],[],[(2,⟨aa5,fun u2=>Int.toNat u2.2.1+1⟩)],[],[]⟩ (hq aa3 hz) aK Tryz.call103 Tryz.func103
def f66(a0:cu):Option (Int×Cj):=
 aI (U:=cu) ((f99 a0).bind fun y2=>if !decide (y2=(0:Int)) then(bX (some (y2,(([]:ZM),([]:Zw),([]:ZG),([]:Zp),([]:ZJ),([]:ZE),()),([]:Ze),()))) else((f100 a0).bind fun y3=>if !decide (y3=(0:Int)) then(bX (some (y3,(([]:ZM),([]:Zw),([]:ZG),([]:Zp),([]:ZJ),([]:ZE),()),([]:Ze),()))) else((f101 a0).bind fun y4=>if !decide (y4=(0:Int)) then(bX (some (y4,(([]:ZM),([]:Zw),([]:ZG),([]:Zp),([]:ZJ),([]:ZE),()),([]:Ze),()))) else((f102 a0).bind fun y5=>if !decide (y5=(0:Int)) then(bX (some (y5,(([]:ZM),([]:Zw),([]:ZG),([]:Zp),([]:ZJ),([]:ZE),()),([]:Ze),()))) else((f103 a0).bind fun y6=>if !decide (y6=(0:Int)) then(bX (some (y6,(([]:ZM),([]:Zw),([]:ZG),([]:Zp),([]:ZJ),([]:ZE),()),([]:Ze),()))) else(some (.brk a0))))))) fun v1=>(f104 v1).bind fun⟨b,_,a⟩=>if !decide (a=(0:Int)) then(some (a,(([]:ZM),([]:Zw),([]:ZG),([]:Zp),([]:ZJ),([]:ZE),()),([]:Ze),())) else(some (0,v1,b,()))
def aa9:SS:=⟨36,76,[tP 1 17,tP 2 18],[(17,bV iK),(18,.var Gs (.cons (.cons .bn (.cons .bn (.cons .bn (.cons .bn (.cons .bn (.cons .bn .nil)))))) (.cons .bn .nil)))],[]⟩
def aba:SS:=⟨36,76,[tP 2 18,tI 3],[(18,bV Gs)],[]⟩
def c66:aZ:=aG G [.cell 2 32,.tmp 3] 66 [.val iK] [] 76 aba [] (.bq (u1 f66))
theorem x66:hS c66:=
 cO ⟨[hE 5 [⟨[4,3,2,1,0],[],[],[],[]⟩],hA 9 5],[(9,aa9)],[],[],[(3,12)],[]⟩ (hq x99 (hq Yy (hq ago (hq aaJ (hq aa8 (hq S9 hz)))))) aK Tryz.call66 Tryz.func66
def f67(a0:Cj)(a1:Cj):Zl:=
 Option.bind (α:=Bool) ((f105 a0.1 a1.1).bind fun y1=>if y1=true then((f73 a0.2.1 a1.2.1).bind fun y2=>some y2) else(some false)) fun v3=>some v3
def abb:SS:=⟨17,57,[(4,vB)],[],[]⟩
def c67:aZ:=aG G [.tmp 4] 67 [.val Gs,.val Gs] [] 57 abb [] (.bq (u2 f67))
theorem x67:hS c67:=
 cO (hR [hD 1 4 [cA 0,cA 1]]) (hq Yq (hq x73 hz)) aK Tryz.call67 Tryz.func67
def f44(a0:Cj):ZU:=
 (f66 a0.1).bind fun⟨a,b⟩=>Option.bind (α:=Bool) (if !decide (a=(0:Int)) then(some true) else((f67 b a0).bind fun y2=>some (!y2))) fun v3=>if v3=true then(some (160:Int)) else(some (0:Int))
def WI:SS:=⟨18,58,[tI 2],[],[]⟩
def c44:aZ:=aG G [.tmp 2] 44 [.val Gs] [] 58 WI [] (.bq (u1 f44))
theorem x44:hS c44:=
 cO (hR [hA 1 0,hD 2 17 [cA 1]]) (hq x66 (hq x67 hz)) aK Tryz.call44 Tryz.func44
def Ke:Nat→Int×Ze×Int×Int×Cj→Option (cJ Cj Bool):=aL fun amx ⟨d,c,b,a,e⟩=>if decide (a<b) then(if 0≤a then(if a<(c.length:Int) then(Option.bind (α:=Bool) (if decide ((nth (.int .i64) c a)≤d) then(some true) else(some (decide ((4096:Int)≤(nth (.int .i64) c a))))) fun v6=>if v6=true then(bX (some false)) else(amx (nth (.int .i64) c a,c,b,bp (a+1),e))) else none) else none) else(some (.brk e))
def f50(a0:Cj)(a1:Ze)(a2:Int):Zl:=
 aI (U:=Ze×Cj) (Option.bind (α:=Bool) (if decide ((a1.length:Int)<(1:Int)) then(some true) else(if decide ((64:Int)<(a1.length:Int)) then(some true) else(if decide (a2<(0:Int)) then(some true) else(some (decide ((1024:Int)≤a2)))))) fun v2=>if v2=true then(bX (some false)) else(some (.brk (a1,a0)))) fun⟨a,b⟩=>aI (U:=Cj) (Ke (Int.toNat (a.length:Int)+1) ((-1:Int),a,(a.length:Int),0,b)) fun v3=>(f44 v3).bind fun y7=>some (decide (y7=(0:Int)))
def abc:SS:=⟨44,84,[(1,.val (.slice 8 (.int .i64))),tP 3 19],[(19,bV Gs)],[]⟩
def abd:SS:=⟨44,84,[tP 3 19],[(19,bV Gs)],[]⟩
def abe:SS:=⟨44,84,[tP 3 19,tI 7,(26,.val (.slice 8 (.int .i64))),tI 27,tI 28],[(19,bV Gs)],[]⟩
def abf:SS:=⟨44,84,[(6,vB)],[],[]⟩
def c50:aZ:=aG G [.tmp 6] 50 [.val Gs,.val (.slice 8 (.int .i64)),vI] [] 84 abf [] (.bq (u3 f50))
theorem x50:hS c50:=
 cO ⟨[hD 1 25 [],hD 7 38 [],hA 11 0],[(3,abc),(11,abd)],[],[(5,⟨abe,fun u4=>Int.toNat u4.2.2.1+1⟩)],[],[]⟩ (hq x44 hz) aK Tryz.call50 Tryz.func50
def Kf(a0:Int)(a1:Int)(a2:YR):Option (YR×Zm):=
 some (a2,a2.1,a2.2.1,a0,a1,a2.2.2.2.2.1,a2.2.2.2.2.2.1,a2.2.2.2.2.2.2.2.2.2,([]:Zf),([]:Zd),([]:Zh))
def abg:SS:=⟨20,60,[tP 6 23],[(0,bV oJ),(23,fB 32 33 36),(32,.map aJ eE),(33,.map aR .bool),(36,.row 110 40 aR)],[]⟩
def Ta:aZ:=aG G [.tmp 6] 53 [pP 0,vI,vI] [(0,bV oJ)] 60 abg [0,23,32,33,36] (.bq (u3 Kf))
theorem Tb:hS Ta:=
 cO (hR [(3,⟨[.sK 23 [.cC 8] 36 110 40 aR],[],[],none,[],[],[]⟩)]) hz aK Tryz.call53 Tryz.func53
def yr:Nat→Int×Int×Zz×Int×Int×bz×ZV→Option (cJ (Int×Int×bz×ZV) Zm):=aL fun al4 ⟨e,f,c,b,a,g,d,h,i,j,k,l⟩=>if decide (a<b) then(if 0≤a then(if a<(c.length:Int) then(if bl aJ (nth bH c a).1 (nth bH c a).1=true then(if d.length+1≤aH then(if(List.length (aP aJ (.slice 64 bH) (nth bH c a).1 d)+List.length [nth bH c a])*64≤aH then(al4 (e,f,c,b,bp (a+1),g,aY aJ (nth bH c a).1 ((aP aJ (.slice 64 bH) (nth bH c a).1 d)++[nth bH c a]) (aY aJ (nth bH c a).1 (Ty.aD (.slice 64 bH)) d),h,i,j,k,l)) else none) else none) else none) else none) else none) else(some (.brk (e,f,g,d,h,i,j,k,l)))
def yu:Nat→Int×Int×Zp×Int×Int×ZV→Option (cJ (Int×Int×ZV) Zm):=aL fun rec6 ⟨e,f,c,b,a,g,d,h,i,j,k⟩=>if decide (a<b) then(if 0≤a then(if a<(c.length:Int) then(if d.length+1≤aH then(rec6 (e,f,c,b,bp (a+1),g,aY (.int .i64) (nth bG c a).2.1 true d,h,i,j,k)) else none) else none) else none) else(some (.brk (e,f,g,d,h,i,j,k)))
def ph(a0:bz)(a1:Int)(a2:Int)(a3:Bool):Option Zm:=
 aI (U:=Int×Int×bz×ZV) (yr (Int.toNat (a0.2.1.length:Int)+1) (a1,a2,a0.2.1,(a0.2.1.length:Int),0,a0,([]:List (cL×Zz)),([]:Zu),a0,0,0,a3)) fun⟨b,c,a,d,e,f,g,h,i⟩=>aI (U:=Int×Int×ZV) (yu (Int.toNat (a.1.1.2.2.2.1.length:Int)+1) (b,c,a.1.1.2.2.2.1,(a.1.1.2.2.2.1.length:Int),0,d,e,f,g,h,i)) fun⟨j,k,m,q,l,n,o,p⟩=>(Kf j k (l,some m,n,o,p,some q,(none:Option Zf),(none:Option Zd),([]:Zh),())).bind fun⟨_,r,s,t,u,v,w,x,y,z,aa⟩=>some (r,s,t,u,v,w,x,y,z,aa)
def WJ:List (Nat×de):=[(20,bV fF),(31,.pmap aJ (.slice 64 bH) 139),(33,.map (.int .i64) .bool),(35,.var oJ (.cons (.val fF) (.cons (.mp 31) (.cons vI (.cons vI (.cons vB (.cons (.mp 33) (.cons .dV (.cons .dV (.cons .bn .nil))))))))))]
def abh:SS:=⟨60,100,[tI 1,tI 2,tP 4 20,tP 9 35],WJ,[]⟩
def WK:List (Nat×de):=[(31,.map aJ (.slice 64 bH)),(33,.map (.int .i64) .bool),(35,.var oJ (.cons (.val fF) (.cons (.mp 31) (.cons vI (.cons vI (.cons vB (.cons (.mp 33) (.cons .dV (.cons .dV (.cons .bn .nil))))))))))]
def abi:SS:=⟨60,100,[tI 1,tI 2,tP 9 35],WK,[]⟩
def abj:SS:=⟨60,100,[tI 1,tI 2,tP 4 20,tP 9 35,(21,.val (.slice 64 bH)),tI 22,tI 23],WJ,[]⟩
def abk:SS:=⟨60,100,[tI 1,tI 2,tP 9 35,(43,.val (.slice 96 bG)),tI 44,tI 45],WK,[]⟩
def abl:SS:=⟨60,100,[tP 8 75],[(75,fB 76 77 78),(76,.map aJ eE),(77,.map aR .bool),(78,.row 110 40 aR)],[]⟩
def Tc:aZ:=aG G [.tmp 8] 43 [.val fF,vI,vI,vB] [] 100 abl [75,76,77,78] (.bq (u4 ph))
theorem Kg:hS Tc:=
 cO ⟨[(2,⟨[.NI 31 139],[],[],none,[],[],[]⟩),(5,⟨[],[],[],none,[],[.map 2 31 76 (.c 11 [.cC 0]),.eP 31],[.A0 31,.nk 31]⟩),(7,⟨[.Mt 31],[],[],none,[],[],[]⟩),(12,⟨[.freeze 31 (.map aJ (.slice 64 bH)),.freeze 33 (.map (.int .i64) .bool),.FK 35],[],[⟨[0],[(0,35)],[(23,75),(32,76),(33,77),(36,78)],[],[]⟩],none,[],[],[]⟩)],[(7,abh),(12,abi)],[],[(3,⟨abj,fun u2=>Int.toNat u2.2.2.2.1+1⟩),(8,⟨abk,fun u5=>Int.toNat u5.2.2.2.1+1⟩)],[],[]⟩ (hq Tb hz) aK Tryz.call43 Tryz.func43
def Eo(a0:Int)(a1:Int)(a2:bz)(a3:Zb)(a4:Int)(a5:Int)(a6:Bool)(a7:Zc)(a8:Unit)(a9:Zf)(a10:Zd)(a11:Zh):Option (bz×Zb×Int×Int×Bool×Zc×Unit×Zf×Zd×Zh×Zm):=
 some (a2,a3,a4,a5,a6,a7,a8,a9,a10,a11,a2,a3,a0,a1,a6,a7,a8,([]:Zf),([]:Zd),([]:Zh))
def abm:SS:=⟨20,60,[tP 6 23],[(0,fB 1 2 3),(1,.map aJ eE),(2,.map aR .bool),(3,.row 110 40 aR),(23,fB 32 33 36),(32,.map aJ eE),(33,.map aR .bool),(36,.row 110 40 aR)],[]⟩
def IU:List (Nat×de):=[(0,fB 1 2 3),(1,.map aJ eE),(2,.map aR .bool),(3,.row 110 40 aR)]
def Td:aZ:=aG G [.tmp 6] 53 [pP 0,vI,vI] IU 60 abm [0,1,2,3,23,32,33,36] (.bq (JO Eo))
theorem Te:hS Td:=
 cO (hR [(3,⟨[.sK 23 [.cC 8] 36 110 40 aR],[],[],none,[],[],[]⟩)]) hz aK Tryz.call53 Tryz.func53
def rR(a0:Int)(a1:Int)(a2:bz)(a3:Zb)(a4:Int)(a5:Int)(a6:Bool)(a7:Zc)(a8:Unit)(a9:Zf)(a10:Zd)(a11:Zh):Option (Bool×Zm):=
 Option.bind (α:=Bool) (if a6=true then(if(aP (.int .i64) .bool a0 (aX a7))=true then(if decide ((0:Int)≤a1) then(if decide (a1<(4096:Int)) then(if decide ((0:Int)≤a4) then(some (decide (a4<(1024:Int)))) else(some false)) else(some false)) else(some false)) else(some false)) else(some false)) fun v1=>some (v1,a2,a3,a4,a5,a6,a7,a8,a9,a10,a11)
def abn:SS:=⟨41,81,[(6,vB)],IU,[]⟩
def Tf:aZ:=aG G [.tmp 6] 61 [pP 0,vI,vI] IU 81 abn [0,1,2,3] (.bq (JO rR))
theorem Ep:hS Tf:=
 cO (hR [hD 1 6 []]) hz aK Tryz.call61 Tryz.func61
def WL:List (Nat×de):=[(0,fB 1 2 93),(1,.map aJ eE),(2,.map aR .bool),(20,bV eE),(93,.row 110 40 aR)]
def Er:SS:=⟨75,115,[tP 4 20],WL,[]⟩
def vE(q:Zk):aZ:=aG G [.cell 4 79] 62 [pP 0,.val aJ] IU 115 Er [0,1,2,93] (.bq q)
def WM:List (Nat×de):=[(0,.var (.slice 48 br) (.own 99)),(1,bV bG),(2,.var (.aT .ptr) (pP 6)),(3,bI),(4,.var (.aT .func) (.func 164 .nil (.cons (pP 0) (.cons (pP 1) (.cons (pP 2) (.cons (pP 3) (.cons (pP 4) .nil))))))),(6,fB 7 8 100),(7,.map aJ eE),(8,.map aR .bool),(99,.row 50 48 br),(100,.row 110 40 aR)]
def NN:SS:=⟨77,117,[(5,vB)],WM,[]⟩
def WN:List (Nat×de):=[(0,.var (.slice 48 br) (.own 5)),(1,bV bG),(2,.var (.aT .ptr) (pP 6)),(3,bI),(4,.var (.aT .func) (.func 164 .nil (.cons (pP 0) (.cons (pP 1) (.cons (pP 2) (.cons (pP 3) (.cons (pP 4) .nil))))))),(5,.row 50 48 br),(6,fB 7 8 9),(7,.map aJ eE),(8,.map aR .bool),(9,.row 110 40 aR)]
def qf(q:Zj):aZ:=aG G [.tmp 5] 164 [pP 0,pP 1,pP 2,pP 3,pP 4] WN 117 NN [0,1,2,3,4,6,7,8,99,100] (.bq q)
def uC(_q0_:Zk)(q1_:Zj)(a0:dr)(a1:Int)(a2:bz)(a3:Zb)(a4:Int)(a5:Int)(a6:Bool)(a7:Zc)(a8:Unit)(a9:Zf)(a10:Zd)(a11:Zh):Option (Bool×Zt):=
 (q1_ (a0,a1,([]:Zn),a2,a3,a4,a5,a6,a7,a8,a9,a10,a11,())).bind fun⟨a,_,_,b,c,d,e,f,g,h,i,j,l,k⟩=>if !a then(some (false,b,c,d,e,f,g,h,i,j,([]:Zn),k)) else(some (true,b,c,d,e,f,g,h,i,j,l,k))
def abo:SS:=⟨14,54,[tP 6 22,(7,vB)],[(0,fB 1 2 31),(1,.map aJ eE),(2,.map aR .bool),(22,.var (.slice 48 br) (.val (.slice 48 br))),(31,.row 110 40 aR)],[]⟩
def NO(q0_:Zk)(q1_:Zj):aZ:=aG G [.cell 6 45,.tmp 7] 115 [pP 0,.val bG,vI] IU 54 abo [0,1,2,31] (.bq (JO (uC q0_ q1_)))
theorem NP(q0_:Zk)(q1_:Zj)(_h0_:hS (vE q0_))(h1_:hS (qf q1_)):hS (NO q0_ q1_):=
 cO (hR [(3,⟨[.sK 22 [] 30 50 48 br],[],[⟨[0],[(0,22),(1,20),(2,19),(3,21),(4,24),(5,30),(6,0),(7,1),(8,2),(9,3)],[(99,27),(100,31)],[],[]⟩],none,[],[],[]⟩)]) (hq h1_ hz) aK Tryz.call115 Tryz.func115
def f166(a0:gQ)(a1:Zn):ZU:=
 if decide (a0.2.2.1=(-1:Int)) then(some a0.2.2.2.2.1) else(if 0≤a0.2.2.1 then(if a0.2.2.1<(a1.length:Int) then(if 0≤a0.2.2.2.1 then(if a0.2.2.2.1<(List.length (nth br a1 a0.2.2.1).2.2.2.1:Int) then(some (nth (.int .i64) (nth br a1 a0.2.2.1).2.2.2.1 a0.2.2.2.1)) else none) else none) else none) else none)
def abp:SS:=⟨20,60,[tI 4],[],[]⟩
def abq:aZ:=aG G [.tmp 4] 166 [.val aU,.val (.slice 48 br)] [] 60 abp [] (.bq (u2 f166))
theorem Tg:hS abq:=
 cO (hR []) hz aK Tryz.call166 Tryz.func166
def jz:Nat→Int×Zn×ZC×Int×Zam→Option (cJ Zam (bz×Zb×Int×Int×Bool×Zc×Unit×Zf×Zd×Zh×k9)):=aL fun al4 ⟨f,d,c,b,a,g,h,i,j,k,l,m,n,o,p,q,r,s,t,e⟩=>if decide (a<b) then(if 0≤a then(if a<(c.length:Int) then((f166 (nth bu c a).2.2.1 d).bind fun y4=>if 0≤(nth bu c a).2.1 then(if(nth bu c a).2.1<(e.length:Int) then(al4 (f,d,c,b,bp (a+1),g,h,i,j,k,l,m,n,o,p,q,r,s,t,List.set e (Int.toNat (nth bu c a).2.1) y4)) else none) else none) else none) else none) else(some (.brk (f,g,h,i,j,k,l,m,n,o,p,q,r,s,t,e)))
def nK(a0:dr)(a1:Int)(a2:Zn)(a3:bz)(a4:Zb)(a5:Int)(a6:Int)(a7:Bool)(a8:Zc)(a9:Unit)(a10:Zf)(a11:Zd)(a12:Zh):Option (bz×Zb×Int×Int×Bool×Zc×Unit×Zf×Zd×Zh×k9):=
 if 0≤a0.2.1 then(if a0.2.1<(a3.1.1.2.2.1.length:Int) then(if 0≤(List.length (nth bF a3.1.1.2.2.1 a0.2.1).2.2.2.2.1:Int) then(if(List.length (nth bF a3.1.1.2.2.1 a0.2.1).2.2.2.2.1:Int)≤(List.length (nth bF a3.1.1.2.2.1 a0.2.1).2.2.2.2.1:Int) then(if(List.length (nth bF a3.1.1.2.2.1 a0.2.1).2.2.2.2.1:Int)*(8:Int)≤(aH:Int) then(if(0:Int)<(List.length (List.replicate (Int.toNat (List.length (nth bF a3.1.1.2.2.1 a0.2.1).2.2.2.2.1:Int)) (0:Int)):Int) then(aI (U:=Zam) (jz (Int.toNat (a0.2.2.2.2.1.length:Int)+1) (a1,a2,a0.2.2.2.2.1,(a0.2.2.2.2.1.length:Int),0,a3,a4,a5,a6,a7,a8,a9,a10,a11,a12,a0,0,0,0,List.set (List.replicate (Int.toNat (List.length (nth bF a3.1.1.2.2.1 a0.2.1).2.2.2.2.1:Int)) (0:Int)) (Int.toNat (0:Int)) a1)) fun⟨l,a,b,c,d,e,f,g,h,i,j,k,_,_,_,m⟩=>some (a,b,c,d,e,f,g,h,i,j,k.2.1,l,0,m,())) else none) else none) else none) else none) else none) else none
def WO:List (Nat×de):=[(0,fB 1 2 3),(1,.map aJ eE),(2,.map aR .bool),(3,.row 110 40 aR),(21,bV bG),(24,.var br (.cons vI (.cons vI (.cons vI (.cons .bn .nil))))),(41,.row 3 8 (.int .i64))]
def abr:SS:=⟨50,90,[tI 2,tP 5 21,tP 8 24,(9,.own 41)],WO,[]⟩
def abt:SS:=⟨50,90,[tI 2,(3,.val (.slice 48 br)),tP 5 21,tP 8 24,(9,.own 41),(30,.val (.slice 80 bu)),tI 31,tI 32],WO,[]⟩
def abu:SS:=⟨50,90,[tP 8 24],[(0,fB 1 2 3),(1,.map aJ eE),(2,.map aR .bool),(3,.row 110 40 aR),(24,bV br)],[]⟩
def NQ:aZ:=aG G [.cell 8 50] 116 [pP 0,.val bG,vI,.val (.slice 48 br)] IU 90 abu [0,1,2,3] (.bq (Kb nK))
theorem NR:hS NQ:=
 cO ⟨[hA 6 0],[(8,abr)],[],[(4,⟨abt,fun u2=>Int.toNat u2.2.2.2.1+1⟩)],[],[]⟩ (hq Tg hz) aK Tryz.call116 Tryz.func116
def yv(q0_:Zk)(q1_:Zj):Nat→Zp×Int×Int×bz×Zb×Int×Int×Bool×Zc×Unit×Zf×Zd×cL×Int×Int×Int×Int×Bool×Zh→Option (cJ (bz×Zb×Int×Int×Bool×Zc×Unit×Zf×Zd×Int×Int×Int×Int×Bool×Zh) ZZ):=aL fun al4 ⟨z,y,x,ab,ac,ad,ae,af,ag,ah,ai,aj,aa,ak,al,am,an,ao,ap⟩=>if decide (x<y) then(if 0≤x then(if x<(z.length:Int) then(if !decide ((nth bG z x).2.1=aa.1) then(al4 (z,y,bp (x+1),ab,ac,ad,ae,af,ag,ah,ai,aj,aa,ak,al,am,an,ao,ap)) else((uC q0_ q1_ (nth bG z x) aa.2.1 ab ac ad ae af ag ah ai aj ap).bind fun⟨a,c,d,e,f,g,h,i,j,k,b,l⟩=>if a=true then((nK (nth bG z x) aa.2.1 b c d e f g h i j k l).bind fun⟨m,n,o,p,q,r,s,t,u,w,v⟩=>bX (some (m,n,o,p,q,r,s,t,u,(v,x,b,true,()),w))) else(al4 (z,y,bp (x+1),c,d,e,f,g,h,i,j,k,aa,ak,al,am,an,ao,l)))) else none) else none) else(some (.brk (ab,ac,ad,ae,af,ag,ah,ai,aj,ak,al,am,an,ao,ap)))
def vF(q0_:Zk)(q1_:Zj)(a0:cL)(a1:bz)(a2:Zb)(a3:Int)(a4:Int)(a5:Bool)(a6:Zc)(a7:Unit)(a8:Zf)(a9:Zd)(a10:Zh):Option ZZ:=
 aI (U:=bz×Zb×Int×Int×Bool×Zc×Unit×Zf×Zd×Int×Int×Int×Int×Bool×Zh) (yv q0_ q1_ (Int.toNat (a1.1.1.2.2.2.1.length:Int)+1) (a1.1.1.2.2.2.1,(a1.1.1.2.2.2.1.length:Int),0,a1,a2,a3,a4,a5,a6,a7,a8,a9,a0,0,0,0,0,false,a10)) fun⟨a,b,c,d,e,f,g,h,i,j,k,l,m,n,o⟩=>some (a,b,c,d,e,f,g,h,i,((j,k,l,([]:Ze),()),m,([]:Zn),n,()),o)
def abv:SS:=⟨47,87,[tP 4 20],[(0,fB 1 2 64),(1,.map aJ eE),(2,.map aR .bool),(20,.var eE (.cons (.cons vI (.cons vI (.cons vI (.cons .bn .nil)))) (.cons vI (.cons .bn (.cons vB .nil))))),(64,.row 110 40 aR)],[]⟩
def abw:SS:=⟨47,87,[tP 0 0,tP 3 19,tP 4 20,(15,.val (.slice 96 bG)),tI 16,tI 17],[(0,fB 1 2 63),(1,.map aJ eE),(2,.map aR .bool),(19,bV aJ),(20,.var eE (.cons (.cons vI (.cons vI (.cons vI (.cons .bn .nil)))) (.cons vI (.cons .bn (.cons vB .nil))))),(63,.row 110 40 aR)],[]⟩
def abx:SS:=⟨47,87,[tP 4 20],[(0,fB 1 2 65),(1,.map aJ eE),(2,.map aR .bool),(20,bV eE),(65,.row 110 40 aR)],[]⟩
def Th(q0_:Zk)(q1_:Zj):aZ:=aG G [.cell 4 79] 86 [pP 0,.val aJ] IU 87 abx [0,1,2,65] (.bq (MW (vF q0_ q1_)))
theorem Ti(q0_:Zk)(q1_:Zj)(h0_:hS (vE q0_))(h1_:hS (qf q1_)):hS (Th q0_ q1_):=
 cO ⟨[hE 5 [cB 0 [(0,0),(1,1),(2,2),(3,63)] [(31,48)]],hE 7 [cB 1 [(0,0),(1,1),(2,2),(3,48)] []]],[(9,abv)],[],[(2,⟨abw,fun u2=>Int.toNat u2.2.1+1⟩)],[],[]⟩ (hq (NP q0_ q1_ h0_ h1_) (hq NR hz)) aK Tryz.call86 Tryz.func86
def kA:Nat→Int×Int×bz×Zb×Int×Int×Bool×Zc×Unit×Zf×Zd×Zh×cL×Cj×Zz→Option (cJ (bz×Zb×Int×Int×Bool×Zc×Unit×Zf×Zd×Zh×Cj×Zz) (bz×Zb×Int×Int×Bool×Zc×Unit×Zf×Zd×Zh×bz)):=aL fun rec4 ⟨b,a,f,e,g,h,i,j,k,l,m,n,d,o,c⟩=>if decide (a<b) then(if(List.length c+List.length (aP aJ (.slice 64 bH) (d.1,d.2.1,bp ((bp ((16:Int)*d.2.2.1))+a),()) (aX e)))*64≤aH then(rec4 (b,bp (a+1),f,e,g,h,i,j,k,l,m,n,d,o,c++(aP aJ (.slice 64 bH) (d.1,d.2.1,bp ((bp ((16:Int)*d.2.2.1))+a),()) (aX e)))) else none) else(some (.brk (f,e,g,h,i,j,k,l,m,n,o,c)))
def gB(a0:cL)(a1:bz)(a2:Zb)(a3:Int)(a4:Int)(a5:Bool)(a6:Zc)(a7:Unit)(a8:Zf)(a9:Zd)(a10:Zh):Option (bz×Zb×Int×Int×Bool×Zc×Unit×Zf×Zd×Zh×bz):=
 aI (U:=bz×Zb×Int×Int×Bool×Zc×Unit×Zf×Zd×Zh×Cj×Zz) (Option.bind (α:=Bool) (if decide ((0:Int)≤a0.1) then(some (decide (a0.1<(a1.1.1.2.2.1.length:Int)))) else(some false)) fun v2=>if v2=true then(if 0≤a0.1 then(if a0.1<(a1.1.1.2.2.1.length:Int) then(kA (Int.toNat (List.length (nth bF a1.1.1.2.2.1 a0.1).2.2.2.2.1:Int)+1) ((List.length (nth bF a1.1.1.2.2.1 a0.1).2.2.2.2.1:Int),0,a1,a2,a3,a4,a5,a6,a7,a8,a9,a10,a0,a1.1,([]:Zz))) else none) else none) else(some (.brk (a1,a2,a3,a4,a5,a6,a7,a8,a9,a10,a1.1,([]:Zz))))) fun⟨a,b,c,d,e,f,g,h,i,j,k,l⟩=>some (a,b,c,d,e,f,g,h,i,j,k,l,())
def aby:SS:=⟨62,102,[tP 4 20,tP 5 21],[(0,fB 1 2 3),(1,.map aJ eE),(2,.map aR .bool),(3,.row 110 40 aR),(20,.var fF (.cons (.cons (.cons .bn (.cons .bn (.cons .bn (.cons .bn (.cons .bn (.cons .bn .nil)))))) (.cons .bn .nil)) (.cons .bn .nil))),(21,.var fF (.cons (.val Gs) (.cons (.own 79) .nil))),(79,.row 139 64 bH)],[]⟩
def abz:SS:=⟨62,102,[tP 0 0,tP 3 19,tP 4 20,tP 5 21,tI 36,tI 37],[(0,fB 1 2 3),(1,.map aJ eE),(2,.map aR .bool),(3,.row 110 40 aR),(19,bV aJ),(20,.var fF (.cons (.cons (.cons .bn (.cons .bn (.cons .bn (.cons .bn (.cons .bn (.cons .bn .nil)))))) (.cons .bn .nil)) (.cons .bn .nil))),(21,.var fF (.cons (.val Gs) (.cons (.own 78) .nil))),(78,.row 139 64 bH)],[]⟩
def abA:SS:=⟨62,102,[tP 4 20],[(0,fB 1 2 3),(1,.map aJ eE),(2,.map aR .bool),(3,.row 110 40 aR),(20,bV fF)],[]⟩
def Tj:aZ:=aG G [.cell 4 35] 88 [pP 0,.val aJ] IU 102 abA [0,1,2,3] (.bq (MW gB))
theorem Tk:hS Tj:=
 cO ⟨[hD 2 26 []],[(9,aby)],[],[(4,⟨abz,fun u3=>Int.toNat u3.1+1⟩)],[],[]⟩ hz aK Tryz.call88 Tryz.func88
def Ab:Nat→Int×Zp×Int×Int×Zu→Option (cJ (Int×Zu) Bool):=aL fun amx ⟨e,c,b,a,d⟩=>if decide (a<b) then(if 0≤a then(if a<(c.length:Int) then(if d.length+1≤aH then(amx (e,c,b,bp (a+1),aY (.int .i64) (nth bG c a).2.1 true d)) else none) else none) else none) else(some (.brk (e,d)))
def f117(a0:cu)(a1:Int):Zl:=
 aI (U:=Int×cu) (Option.bind (α:=Bool) (if decide (a1<(0:Int)) then(some true) else(if decide ((a0.2.2.1.length:Int)≤a1) then(some true) else(if 0≤a1 then(if a1<(a0.2.2.1.length:Int) then(some (decide ((List.length (nth bF a0.2.2.1 a1).2.2.2.2.1:Int)<(2:Int)))) else none) else none))) fun v2=>if v2=true then(bX (some false)) else(some (.brk (a1,a0)))) fun⟨b,a⟩=>aI (U:=Int×Zu) (Ab (Int.toNat (a.2.2.2.1.length:Int)+1) (b,a.2.2.2.1,(a.2.2.2.1.length:Int),0,([]:Zu))) fun⟨c,d⟩=>some (!(aP (.int .i64) .bool c d))
def abB:SS:=⟨43,83,[tI 1,tP 2 18],[(18,bV iK)],[]⟩
def abC:SS:=⟨43,83,[tI 1,(5,.mp 43)],[(43,.map (.int .i64) .bool)],[]⟩
def abD:SS:=⟨43,83,[tI 1,(5,.mp 43),(29,.val (.slice 96 bG)),tI 30,tI 31],[(43,.map (.int .i64) .bool)],[]⟩
def abE:SS:=⟨43,83,[(4,vB)],[],[]⟩
def abF:aZ:=aG G [.tmp 4] 117 [.val iK,vI] [] 83 abE [] (.bq (u2 f117))
theorem abG:hS abF:=
 cO ⟨[hD 1 26 []],[(3,abB),(9,abC)],[],[(5,⟨abD,fun u4=>Int.toNat u4.2.2.1+1⟩)],[],[]⟩ hz aK Tryz.call117 Tryz.func117
def f118(a0:Int)(a1:Int):Zl:=
 Option.bind (α:=Bool) (if decide ((0:Int)≤a0) then(if decide (a0<(4096:Int)) then(if decide ((0:Int)≤a1) then(some (decide (a1<(4:Int)))) else(some false)) else(some false)) else(some false)) fun v1=>some v1
def abH:SS:=⟨19,59,[(4,vB)],[],[]⟩
def abI:aZ:=aG G [.tmp 4] 118 [vI,vI] [] 59 abH [] (.bq (u2 f118))
theorem abJ:hS abI:=
 cO (hR [hD 1 4 []]) hz aK Tryz.call118 Tryz.func118
def f120(a0:Int)(a1:Int)(a2:Int)(a3:Int):Option cL:=
 some (a0,a1,bp ((bp ((16:Int)*a2))+a3),())
def abK:SS:=⟨16,56,[tP 8 24],[(24,bV aJ)],[]⟩
def abL:aZ:=aG G [.cell 8 108] 120 [vI,vI,vI,vI] [] 56 abK [] (.bq (u4 f120))
theorem abM:hS abL:=
 cO (hR []) hz aK Tryz.call120 Tryz.func120
def Es(a0:Zz)(a1:cL)(a2:Int):Option (Zz×cL×Int):=
 some (a0,a1,a2)
def abN:SS:=⟨8,48,[(6,.func 107 .nil (.cons (pP 19) (.cons (pP 20) (.cons (pP 21) .nil))))],[(19,.var (.slice 64 bH) (.val (.slice 64 bH))),(20,bV aJ),(21,bI)],[]⟩
def Tl:aZ:=aG G [.tmp 6] 70 [.val (.slice 64 bH),.val aJ,vI] [] 48 abN [19,20,21] (.bq (u3 Es))
theorem Tm:hS Tl:=
 cO (hR []) hz aK Tryz.call70 Tryz.func70
def f57(a0:Int):Zl:=
 some (!decide (a0=a0))
def abO:SS:=⟨6,46,[(2,vB)],[],[]⟩
def c57:aZ:=aG G [.tmp 2] 57 [vI] [] 46 abO [] (.bq (u1 f57))
theorem x57:hS c57:=
 cO (hR []) hz aK Tryz.call57 Tryz.func57
def f30(a0:Int)(a1:Int):ZU:=
 (f57 a0).bind fun y1=>(f57 a1).bind fun y2=>if y1=true then(if y2=true then(some (0:Int)) else(some (-1:Int))) else(if y2=true then(some (1:Int)) else(if decide (a0<a1) then(some (-1:Int)) else(if decide (a1<a0) then(some (1:Int)) else(some (0:Int)))))
def abP:SS:=⟨20,60,[tI 4],[],[]⟩
def c30:aZ:=aG G [.tmp 4] 30 [vI,vI] [] 60 abP [] (.bq (u2 f30))
theorem x30:hS c30:=
 cO (hR [hA 1 0,hA 2 0]) (hq x57 hz) aK Tryz.call30 Tryz.func30
def pj:Nat→Int×Ze×BX→Option (cJ Int Int):=aL fun al4 ⟨d,c,b,a⟩=>if decide (a<b) then(if 0≤a then(if a<(c.length:Int) then(if !decide ((nth (.int .i64) c a)=d) then(bX (some (nth (.int .i64) c a))) else(al4 (d,c,b,bp (a+1)))) else none) else none) else(some (.brk d))
def f29(a0:Ze):ZU:=
 aI (U:=Int) (pj (Int.toNat (a0.length:Int)+1) (0,a0,(a0.length:Int),0)) fun v1=>some v1
def abR:SS:=⟨18,58,[tI 3],[],[]⟩
def abS:SS:=⟨18,58,[tI 3,(6,.val (.slice 8 (.int .i64))),tI 7,tI 8],[],[]⟩
def c29:aZ:=aG G [.tmp 2] 29 [.val (.slice 8 (.int .i64))] [] 58 WI [] (.bq (u1 f29))
theorem x29:hS c29:=
 cO ⟨[],[(8,abR)],[],[(3,⟨abS,fun u2=>Int.toNat u2.2.2.1+1⟩)],[],[]⟩ hz aK Tryz.call29 Tryz.func29
def f71(a0:gK)(a1:gK):ZU:=
 (f30 a0.2.2.2.1 a1.2.2.2.1).bind fun y1=>(f30 a0.2.2.2.2.1 a1.2.2.2.2.1).bind fun y2=>(f29 [y1,y2]).bind fun y3=>some y3
def abU:SS:=⟨17,57,[tI 4],[],[]⟩
def c71:aZ:=aG G [.tmp 4] 71 [.val bH,.val bH] [] 57 abU [] (.bq (u2 f71))
theorem x71:hS c71:=
 cO (hR [hE 1 [cA 0,cA 0,cA 1]]) (hq x30 (hq x29 hz)) aK Tryz.call71 Tryz.func71
def pn(l_:Nat)(Y_:gK×YC×Nat×Nat×Int×Nat×gK×Nat×Bool×Unit→Zau):Nat→Nat×Zz×Int×Int×ZT→Option (cJ ZT ZT):=aL fun al4 ⟨o,l,k,j,p,q,r,s,t,u,v,w,x,m,n⟩=>if decide (j<k) then(if 0≤j then(if j<(l.length:Int) then(if(bl aJ (nth bH l j).1 m)=true then(if decide ((nth bH l j).2.2.2.1≤n) then(if o=l_ then((Y_ (nth bH l j,p,q,r,s,t,u,v,w,())).bind fun⟨a,b,c,d,e,f,g,h,i⟩=>if !a then(bX (some (b,c,d,e,f,g,h,i,x,m,n))) else(al4 (o,l,k,bp (j+1),b,c,d,e,f,g,h,i,x,m,n))) else none) else(al4 (o,l,k,bp (j+1),p,q,r,s,t,u,v,w,x,m,n))) else(al4 (o,l,k,bp (j+1),p,q,r,s,t,u,v,w,x,m,n))) else none) else none) else(some (.brk (p,q,r,s,t,u,v,w,x,m,n)))
def Ac(l_:Nat)(Y_:gK×YC×Nat×Nat×Int×Nat×gK×Nat×Bool×Unit→Zau)(a0:Nat)(a1:YC)(a2:Nat)(a3:Nat)(a4:Int)(a5:Nat)(a6:gK)(a7:Nat)(a8:Bool)(a9:Zz)(a10:cL)(a11:Int):Option ZT:=
 aI (U:=ZT) (pn l_ Y_ (Int.toNat (a9.length:Int)+1) (a0,a9,(a9.length:Int),0,a1,a2,a3,a4,a5,a6,a7,a8,a9,a10,a11)) fun⟨a,b,c,d,e,f,g,h,i,j,k⟩=>some (a,b,c,d,e,f,g,h,i,j,k)
def Tn:List (Nat×de):=[(0,.lp),(1,.tv (.int .i64) vI),(2,.tv bH (.val bH)),(3,.tv .bool vB),(4,.var (.slice 64 bH) (.val (.slice 64 bH))),(5,bV aJ),(6,bI)]
def WQ:SS:=⟨30,70,[],Tn,[]⟩
def abV:SS:=⟨30,70,[(0,.Dj),tP 2 5,tP 3 6,(7,.val (.slice 64 bH)),tI 8,tI 9],Tn,[]⟩
def Ad:IC:=⟨[.val bH],[(0,.lp),(1,.tv (.int .i64) vI),(2,.tv bH (.val bH)),(3,.tv .bool vB)],90,0,[(1,.tv (.int .i64) vI),(2,.tv bH (.val bH)),(3,.tv .bool vB)],fun l f=>aG G [] 107 [.Dj,pP 4,pP 5,pP 6] Tn 70 WQ [0,1,2,3,4,5,6] (.bq (JO (Ac l f)))⟩
theorem NS:Ad.holds Tryz.prog gl:=fun B hB l f hY=>
 aZ.of tied (H:=⟨[hE 3 [cB 0 [(0,0),(1,1),(2,2),(3,3)] []]],[],[(0,WQ)],[(1,⟨abV,fun u2=>Int.toNat u2.2.2.1+1⟩)],[],[]⟩) (hold (l:=[IC.Y Ad l f]) ⟨hY,trivial⟩) aK rfl Tryz.call107 Tryz.func107 rfl rfl rfl rfl (fun _=>by kernel_rfl) (fun _=>by kernel_rfl)
def uD(y_:YC)(b5_0:gK)(yt:YC)(yj:Nat)(g1:Nat)(c5_0:Int)(g2:Nat)(c5_1:gK)(g3:Nat)(c5_2:Bool):Zau:=
 NH yt y_ (if yj=0 then(if g1=y_.gs 1 then(if g2=y_.gs 2 then(if g3=y_.gs 3 then(Option.bind (α:=Nat×Nat×Int×Nat×gK×Nat×Bool) (Option.bind (α:=Bool) (if decide (b5_0.2.2.1.1≤c5_0) then(if decide (c5_0<b5_0.2.2.1.2.1) then(if !c5_2 then(some true) else((f71 c5_1 b5_0).bind fun y3=>some (decide (y3≤(0:Int))))) else(some false)) else(some false)) fun v4=>if v4=true then(some (0,y_.gs 1,c5_0,y_.gs 2,b5_0,y_.gs 3,true)) else(some (0,y_.gs 1,c5_0,y_.gs 2,c5_1,y_.gs 3,c5_2))) fun r_=>if r_.2.1=y_.gs 1 then(if r_.2.2.2.1=y_.gs 2 then(if r_.2.2.2.2.2.1=y_.gs 3 then(some (Nat.beq r_.1 0,y_,r_.1,r_.2.1,r_.2.2.1,r_.2.2.2.1,r_.2.2.2.2.1,r_.2.2.2.2.2.1,r_.2.2.2.2.2.2)) else none) else none) else none) else none) else none) else none) else none)
def f121(a0:Zz)(a1:cL)(a2:Int)(a3:Int):Option (Int×Bool):=
 aI (U:=gK×Bool) ((Es a0 a1 a3).bind fun⟨a,b,c⟩=>yb fun y5=>(Ac y5.l (fun d=>uD y5 d.1 d.2.1 d.2.2.1 d.2.2.2.1 d.2.2.2.2.1 d.2.2.2.2.2.1 d.2.2.2.2.2.2.1 d.2.2.2.2.2.2.2.1 d.2.2.2.2.2.2.2.2.1) y5.l y5 0 (y5.gs 1) a2 (y5.gs 2) ((0,0,0,()),0,(0,0,()),0,0,()) (y5.gs 3) false a b c).bind fun⟨e,f,_,_,_,g,_,h,_,_,_⟩=>NH e y5 (if f=0 then(some (.brk (g,h))) else none)) fun⟨j,i⟩=>Option.bind (α:=Bool) (if !i then(some true) else(some (decide (j.2.1<(0:Int))))) fun v7=>if v7=true then(some (0,false)) else(some (j.2.1,true))
def abW:SS:=⟨50,90,[tP 10 26,tP 11 27],[(26,bV bH),(27,.var .bool vB),(68,.uM)],[.mp 68]⟩
def abX:SS:=⟨50,90,[tP 6 22,tI 8,(9,vB),tP 10 26,tP 11 27,(16,.func 107 .nil (.cons (pP 32) (.cons (pP 66) (.cons (pP 67) .nil))))],[(22,bI),(26,bV bH),(27,.var .bool vB),(32,.var (.slice 64 bH) (.val (.slice 64 bH))),(66,bV aJ),(67,bI)],[]⟩
def abY:SS:=⟨50,90,[],[(1,bI),(2,bV bH),(3,.var .bool vB)],[]⟩
def WR:SS:=⟨50,90,[tI 8,(9,vB)],[],[]⟩
def abZ:aZ:=aG G [.tmp 8,.tmp 9] 121 [.val (.slice 64 bH),.val aJ,vI,vI] [] 90 WR [] (.bq (u4 f121))
theorem ab0:hS abZ:=
 cO ⟨[hE 3 [cB 0 [] [(19,32),(20,66),(21,67)]],hD 5 39 [cA 1],hD 7 47 []],[(7,abW)],[],[],[],[(5,⟨0,68,69,[(1,.int .i64),(2,bH),(3,.bool)],[(22,1),(26,2),(27,3)],[],[(0,69),(1,22),(2,26),(3,27),(4,32),(5,66),(6,67)],[],abX,abY⟩)]⟩ (hq Tm (hq x71 hz)) (DB (L:=[Ad]) ⟨NS,trivial⟩) Tryz.call121 Tryz.func121
end Go.Proofs.YtpmlkhjpbjnagaaGreat
