/- part -/
import Derived.Test.YtgdcjlldafmomaaGreatUO
import Derived.Test.YtgdcjlldafmomaaGreatY1
noncomputable section
namespace Go.Proofs.YtgdcjlldafmomaaGreat
open Go.Ax
def f61(a0:cz):Option (Ze×Bool×Int):=
 Option.bind (f95 a0) fun⟨a,b⟩=>if(!decide (a=(0:Int)))=true then(some (([]:Ze),false,a)) else(Option.bind (BQ b) fun y2=>Option.bind (sf y2) fun y3=>if(decide ((List.length y3:Int)<b.1))=true then(some (([]:Ze),false,0)) else(some (y3,true,0)))
def WH:SS:=⟨23,63,[(2,.val (.slice 8 (.int .i64))),(3,vB),tI 4],[],[]⟩
def c61:aW:=aF G [.tmp 2,.tmp 3,.tmp 4] 61 [.val gE] [] 63 WH [] (.bE (u1 f61))
theorem WI:hS c61:=
 cO (hR [hA 1 0,(4,⟨[],[(2,15,.aR .func)],[⟨[1],[],[(17,31)],[],[]⟩,⟨[2],[],[],[],[]⟩],none,[],[],[]⟩)]) (hq x95 (hq ME (hq Jr hz))) aI Tryz.call61 Tryz.func61
def f92(a0:cz):ZM:=
 Option.bind (f57 a0) fun y1=>if(!decide (y1=(0:Int)))=true then(some y1) else(Option.bind (f61 a0) fun⟨_,b,a⟩=>if(!decide (a=(0:Int)))=true then(some a) else(if(!b)=true then(some (141:Int)) else(some (0:Int))))
def WJ:SS:=⟨22,62,[tI 2],[],[]⟩
def c92:aW:=aF G [.tmp 2] 92 [.val gE] [] 62 WJ [] (.bE (u1 f92))
theorem x92:hS c92:=
 cO (hR [hA 1 0,hA 4 1]) (hq Yy (hq WI hz)) aI Tryz.call92 Tryz.func92
def qn:Nat→Ze×Int×Ze×Int×Int×Zm→Option (cQ (Ze×Int×Zm) (Bool×Zm)):=aK fun acK ⟨e,f,c,b,a,d⟩=>if(decide (a<b))=true then(if 0≤a then(if a<(List.length c:Int) then(if(bw (.int .i64) .bool (nth (.int .i64) c a) d)=true then(bZ (some (false,d))) else(if List.length d+1≤aE then(acK (e,f,c,b,aZ (a+1),bB (.int .i64) (nth (.int .i64) c a) true d)) else none)) else none) else none) else(some (.brk (e,f,d)))
def BV(a0:Ze)(a1:Int)(a2:Zm):Option (Bool×Zm):=
 aG (U:=Ze×Int×Zm) (qn (Int.toNat (List.length a0:Int)+1) (a0,a1,a0,(List.length a0:Int),0,a2)) fun⟨a,b,c⟩=>some (decide ((List.length a:Int)=b),c)
def WK:SS:=⟨25,65,[(1,.val (.slice 8 (.int .i64))),tI 2],[(0,.map (.int .i64) .bool)],[]⟩
def WL:SS:=⟨25,65,[(0,.mp 0),(1,.val (.slice 8 (.int .i64))),tI 2,(9,.val (.slice 8 (.int .i64))),tI 10,tI 11],[(0,.map (.int .i64) .bool)],[]⟩
def WM:SS:=⟨25,65,[(6,vB)],[(0,.map (.int .i64) .bool)],[]⟩
def MT:aW:=aF G [.tmp 6] 93 [.mp 0,.val (.slice 8 (.int .i64)),vI] [(0,.map (.int .i64) .bool)] 65 WM [0] (.bE (u3 BV))
theorem MU:hS MT:=
 cO ⟨[],[(8,WK)],[],[(2,⟨WL,fun u2=>Int.toNat u2.2.2.2.1+1⟩)],[],[]⟩ hz aI Tryz.call93 Tryz.func93
def f59(a0:cz):ZM:=
 Option.bind (f92 a0) fun y1=>if(!decide (y1=(0:Int)))=true then(some y1) else(Option.bind (f61 a0) fun⟨c,b,a⟩=>if(!decide (a=(0:Int)))=true then(some a) else(if(!b)=true then(some (141:Int)) else(Option.bind (BV c (List.length a0.2.2.1:Int) ([]:Zm)) fun⟨d,_⟩=>if(!d)=true then(some (141:Int)) else(some (0:Int)))))
def WN:SS:=⟨31,71,[tI 2],[],[]⟩
def c59:aW:=aF G [.tmp 2] 59 [.val gE] [] 71 WN [] (.bE (u1 f59))
theorem x59:hS c59:=
 cO (hR [hA 1 0,hA 4 1,hE 7 [cB 2 [(0,39)] []]]) (hq x92 (hq WI (hq MU hz))) aI Tryz.call59 Tryz.func59
def mN:Nat→Int×ZD×ZD×Int×Int×cz→Option (cQ ZD Bool):=aK fun adl ⟨e,f,c,b,a,d⟩=>if(decide (a<b))=true then(if 0≤a then(if a<(List.length c:Int) then(Option.bind (f54 d e a (nth dY c a).2.1.2.1) fun y6=>if(!y6)=true then(bZ (some false)) else(adl (e,f,c,b,aZ (a+1),d))) else none) else none) else(some (.brk f))
def f144(a0:cz)(a1:Int):Zl:=
 aG (U:=Int×cz) (Option.bind (α:=Bool) (if(decide (a1<(0:Int)))=true then(some true) else(some (decide ((List.length a0.2.2.1:Int)≤a1)))) fun v2=>if v2=true then(bZ (some false)) else(some (.brk (a1,a0)))) fun⟨a,b⟩=>if 0≤a then(if a<(List.length b.2.2.1:Int) then(aG (U:=ZD) (mN (Int.toNat (List.length (nth bG b.2.2.1 a).2.2.2.2.1:Int)+1) (a,(nth bG b.2.2.1 a).2.2.2.2.1,(nth bG b.2.2.1 a).2.2.2.2.1,(List.length (nth bG b.2.2.1 a).2.2.2.2.1:Int),0,b)) fun v3=>Option.bind (α:=Bool) (if(decide ((0:Int)<(List.length v3:Int)))=true then(if(0:Int)<(List.length v3:Int) then(some (decide ((nth dY v3 (0:Int)).2.1.1=(3:Int)))) else none) else(some false)) fun v7=>some v7) else none) else none
def WO:SS:=⟨50,90,[tI 1,tP 2 18],[(18,bV gE)],[]⟩
def WQ:SS:=⟨50,90,[(5,.val (.slice 120 dY))],[],[]⟩
def WR:SS:=⟨50,90,[tI 1,tP 2 18,(5,.val (.slice 120 dY)),(23,.val (.slice 120 dY)),tI 24,tI 25],[(18,bV gE)],[]⟩
def WS:SS:=⟨50,90,[(4,vB)],[],[]⟩
def WT:aW:=aF G [.tmp 4] 144 [.val gE,vI] [] 90 WS [] (.bE (u2 f144))
theorem WU:hS WT:=
 cO ⟨[hD 1 16 [],hA 7 0,hD 10 4 []],[(3,WO),(10,WQ)],[],[(5,⟨WR,fun u4=>Int.toNat u4.2.2.2.1+1⟩)],[],[]⟩ (hq Yt hz) aI Tryz.call144 Tryz.func144
def f145(a0:jg)(a1:jg)(a2:Int):Zl:=
 if(!decide (a0.1=a1.1))=true then(some false) else(aG (U:=Int×jg×jg) (Option.bind (α:=Bool) (if(decide (a0.1=(1:Int)))=true then(some true) else(some (decide (a0.1=(2:Int))))) fun v2=>if v2=true then(Option.bind (α:=Bool) (if(decide (a1.2.1=(aZ (a0.2.1+a2))))=true then(if(decide (a1.2.2.1=(aZ (a0.2.2.1+a2))))=true then(some (decide (a0.2.2.2.2.1=a1.2.2.2.2.1))) else(some false)) else(some false)) fun v3=>bZ (some v3)) else(some (.brk (a2,a0,a1)))) fun⟨a,b,c⟩=>Option.bind (α:=Bool) (if(decide (a=(0:Int)))=true then(if(decide (b.2.1=c.2.1))=true then(if(decide (b.2.2.1=c.2.2.1))=true then(some (decide ((List.length b.2.2.2.2.2.1:Int)=(List.length c.2.2.2.2.2.1:Int)))) else(some false)) else(some false)) else(some false)) fun v4=>some v4)
def WV:SS:=⟨68,108,[tI 2,tP 3 19,tP 4 20],[(19,bV lE),(20,bV lE)],[]⟩
def WW:SS:=⟨68,108,[(6,vB)],[],[]⟩
def WZ:aW:=aF G [.tmp 6] 145 [.val lE,.val lE,vI] [] 108 WW [] (.bE (u3 f145))
theorem W0:hS WZ:=
 cO ⟨[hD 3 19 [],hD 4 6 [],hD 5 6 []],[(5,WV)],[],[],[],[]⟩ hz aI Tryz.call145 Tryz.func145
def tX:Nat→ZD×ZD×Zq×Int×Int×List Bool×List Bool→Zt:=aK fun rec9 ⟨l,m,k,j,i,n,o⟩=>if(decide (i<j))=true then(if 0≤i then(if i<(List.length k:Int) then(aG (U:=ZD×ZD×Zq×Int×Int×gO×List Bool×List Bool) (Option.bind (α:=Bool) (if(decide ((nth aS k i).2.2.2.1<(1:Int)))=true then(some true) else(if(decide ((List.length l:Int)≤(nth aS k i).2.2.2.1))=true then(some true) else(if(decide ((nth aS k i).2.2.1<(1:Int)))=true then(some true) else(if(decide ((List.length m:Int)≤(nth aS k i).2.2.1))=true then(some true) else(if 0≤(nth aS k i).2.2.2.1 then(if(nth aS k i).2.2.2.1<(List.length n:Int) then(if(nth .bool n (nth aS k i).2.2.2.1)=true then(some true) else(if 0≤(nth aS k i).2.2.1 then(if(nth aS k i).2.2.1<(List.length o:Int) then(some (nth .bool o (nth aS k i).2.2.1)) else none) else none)) else none) else none))))) fun v11=>if v11=true then(bZ (bZ (some false))) else(some (.brk (l,m,k,j,i,nth aS k i,n,o)))) fun⟨d,e,f,g,h,a,b,c⟩=>if 0≤a.2.2.2.1 then(if a.2.2.2.1<(List.length b:Int) then(if 0≤a.2.2.1 then(if a.2.2.1<(List.length c:Int) then(if 0≤a.2.2.2.1 then(if a.2.2.2.1<(List.length d:Int) then(if 0≤a.2.2.1 then(if a.2.2.1<(List.length e:Int) then(Option.bind (f145 (nth dY d a.2.2.2.1).2.1 (nth dY e a.2.2.1).2.1 a.2.2.2.2.1) fun y12=>if(!y12)=true then(bZ (some false)) else(rec9 (d,e,f,g,aZ (h+1),List.set b (Int.toNat a.2.2.2.1) true,List.set c (Int.toNat a.2.2.1) true))) else none) else none) else none) else none) else none) else none) else none) else none) else none) else none) else(some (.brk ()))
def f94(a0:cz)(a1:pZ):Zl:=
 aG (U:=cz×pZ) (Option.bind (α:=Bool) (if(decide (a1.2.2.1=a1.2.2.2.1))=true then(some true) else(Option.bind (f144 a0 a1.2.2.1) fun y2=>if(!y2)=true then(some true) else(Option.bind (f144 a0 a1.2.2.2.1) fun y3=>some (!y3)))) fun v4=>if v4=true then(bZ (some false)) else(some (.brk (a0,a1)))) fun⟨b,a⟩=>if 0≤a.2.2.1 then(if a.2.2.1<(List.length b.2.2.1:Int) then(if 0≤a.2.2.2.1 then(if a.2.2.2.1<(List.length b.2.2.1:Int) then(aG (U:=ZD×ZD×pZ) (Option.bind (α:=Bool) (if(!decide ((List.length a.2.2.2.2.1:Int)=(aZ ((List.length (nth bG b.2.2.1 a.2.2.1).2.2.2.2.1:Int) -(1:Int)))))=true then(some true) else(some (!decide ((List.length a.2.2.2.2.1:Int)=(aZ ((List.length (nth bG b.2.2.1 a.2.2.2.1).2.2.2.2.1:Int) -(1:Int))))))) fun v6=>if v6=true then(bZ (some false)) else(some (.brk ((nth bG b.2.2.1 a.2.2.1).2.2.2.2.1,(nth bG b.2.2.1 a.2.2.2.1).2.2.2.2.1,a)))) fun⟨c,d,e⟩=>if 0≤(List.length c:Int) then(if(List.length c:Int)≤(List.length c:Int) then(if(List.length c:Int)*(1:Int)≤(aE:Int) then(if 0≤(List.length d:Int) then(if(List.length d:Int)≤(List.length d:Int) then(if(List.length d:Int)*(1:Int)≤(aE:Int) then(aG (U:=Unit) (tX (Int.toNat (List.length e.2.2.2.2.1:Int)+1) (c,d,e.2.2.2.2.1,(List.length e.2.2.2.2.1:Int),0,List.replicate (Int.toNat (List.length c:Int)) false,List.replicate (Int.toNat (List.length d:Int)) false)) fun _=>some true) else none) else none) else none) else none) else none) else none) else none) else none) else none) else none
def W1:SS:=⟨134,174,[tP 2 18,tP 3 19],[(18,bV gE),(19,bV fa)],[]⟩
def W2:SS:=⟨134,174,[tP 3 19,(5,.val (.slice 120 dY)),(6,.val (.slice 120 dY))],[(19,bV fa)],[]⟩
def W3:SS:=⟨134,174,[(5,.val (.slice 120 dY)),(6,.val (.slice 120 dY)),(7,.own 78),(8,.own 81),tP 10 26,(67,.val (.slice 56 aS)),tI 68,tI 69],[(26,bV aS),(78,.row 4 1 .bool),(81,.row 4 1 .bool)],[]⟩
def W4:SS:=⟨134,174,[],[],[]⟩
def W5:SS:=⟨134,174,[(5,.val (.slice 120 dY)),(6,.val (.slice 120 dY)),(7,.own 78),(8,.own 81),(67,.val (.slice 56 aS)),tI 68,tI 69],[(78,.row 4 1 .bool),(81,.row 4 1 .bool)],[]⟩
def W6:SS:=⟨134,174,[(4,vB)],[],[]⟩
def c94:aW:=aF G [.tmp 4] 94 [.val gE,.val fa] [] 174 W6 [] (.bE (u2 f94))
theorem x94:hS c94:=
 cO ⟨[hD 1 29 [cA 0,cA 0],hD 4 59 [],hD 10 108 [],hA 13 1],[(3,W1),(6,W2),(12,W3),(16,W4)],[],[(8,⟨W5,fun u8=>Int.toNat u8.2.2.2.1+1⟩)],[],[]⟩ (hq WU (hq W0 hz)) aI Tryz.call94 Tryz.func94
def BW:Nat→ZC×Int×Int×cz→Option (cQ Unit Int):=aK fun acK ⟨c,b,a,d⟩=>if(decide (a<b))=true then(if 0≤a then(if a<(List.length c:Int) then(Option.bind (f94 d (nth fa c a)) fun y4=>if(!y4)=true then(bZ (some (150:Int))) else(acK (c,b,aZ (a+1),d))) else none) else none) else(some (.brk ()))
def f60(a0:cz):ZM:=
 aG (U:=Unit) (BW (Int.toNat (List.length a0.2.2.2.2.1:Int)+1) (a0.2.2.2.2.1,(List.length a0.2.2.2.2.1:Int),0,a0)) fun _=>some (0:Int)
def W7:SS:=⟨17,57,[],[],[]⟩
def W8:SS:=⟨17,57,[tP 1 17,(6,.val (.slice 72 fa)),tI 7,tI 8],[(17,bV gE)],[]⟩
def W9:SS:=⟨17,57,[tI 2],[],[]⟩
def c60:aW:=aF G [.tmp 2] 60 [.val gE] [] 57 W9 [] (.bE (u1 f60))
theorem x60:hS c60:=
 cO ⟨[hA 4 0],[(7,W7)],[],[(2,⟨W8,fun u2=>Int.toNat u2.2.1+1⟩)],[],[]⟩ (hq x94 hz) aI Tryz.call60 Tryz.func60
def f36(a0:cz):Option (Int×EE):=
 aG (U:=cz) (Option.bind (f56 a0) fun y2=>if(!decide (y2=(0:Int)))=true then(bZ (some (y2,(([]:ZF),([]:Zq),([]:ZA),([]:Zn),([]:ZC),([]:Zz),()),([]:Ze),()))) else(Option.bind (f57 a0) fun y3=>if(!decide (y3=(0:Int)))=true then(bZ (some (y3,(([]:ZF),([]:Zq),([]:ZA),([]:Zn),([]:ZC),([]:Zz),()),([]:Ze),()))) else(Option.bind (f58 a0) fun y4=>if(!decide (y4=(0:Int)))=true then(bZ (some (y4,(([]:ZF),([]:Zq),([]:ZA),([]:Zn),([]:ZC),([]:Zz),()),([]:Ze),()))) else(Option.bind (f59 a0) fun y5=>if(!decide (y5=(0:Int)))=true then(bZ (some (y5,(([]:ZF),([]:Zq),([]:ZA),([]:Zn),([]:ZC),([]:Zz),()),([]:Ze),()))) else(Option.bind (f60 a0) fun y6=>if(!decide (y6=(0:Int)))=true then(bZ (some (y6,(([]:ZF),([]:Zq),([]:ZA),([]:Zn),([]:ZC),([]:Zz),()),([]:Ze),()))) else(some (.brk a0))))))) fun v1=>Option.bind (f61 v1) fun⟨b,_,a⟩=>if(!decide (a=(0:Int)))=true then(some (a,(([]:ZF),([]:Zq),([]:ZA),([]:Zn),([]:ZC),([]:Zz),()),([]:Ze),())) else(some (0,v1,b,()))
def Xa:SS:=⟨36,76,[tP 1 17,tP 2 18],[(17,bV gE),(18,.var Gn (.cons (.cons .bA (.cons .bA (.cons .bA (.cons .bA (.cons .bA (.cons .bA .nil)))))) (.cons .bA .nil)))],[]⟩
def Xb:SS:=⟨36,76,[tP 2 18,tI 3],[(18,bV Gn)],[]⟩
def c36:aW:=aF G [.cell 2 32,.tmp 3] 36 [.val gE] [] 76 Xb [] (.bE (u1 f36))
theorem x36:hS c36:=
 cO ⟨[hE 5 [⟨[4,3,2,1,0],[],[],[],[]⟩],hA 9 5],[(9,Xa)],[],[],[(3,12)],[]⟩ (hq x56 (hq Yy (hq x58 (hq x59 (hq x60 (hq WI hz)))))) aI Tryz.call36 Tryz.func36
def f37(a0:EE)(a1:EE):Zl:=
 Option.bind (α:=Bool) (Option.bind (f62 a0.1 a1.1) fun y1=>if y1=true then(Option.bind (f63 a0.2.1 a1.2.1) fun y2=>some y2) else(some false)) fun v3=>some v3
def Xc:SS:=⟨17,57,[(4,vB)],[],[]⟩
def c37:aW:=aF G [.tmp 4] 37 [.val Gn,.val Gn] [] 57 Xc [] (.bE (u2 f37))
theorem x37:hS c37:=
 cO (hR [hD 1 4 [cA 0,cA 1]]) (hq Yw (hq Ya hz)) aI Tryz.call37 Tryz.func37
def f18(a0:EE):ZM:=
 Option.bind (f36 a0.1) fun⟨a,b⟩=>Option.bind (α:=Bool) (if(!decide (a=(0:Int)))=true then(some true) else(Option.bind (f37 b a0) fun y2=>some (!y2))) fun v3=>if v3=true then(some (160:Int)) else(some (0:Int))
def Xd:SS:=⟨18,58,[tI 2],[],[]⟩
def c18:aW:=aF G [.tmp 2] 18 [.val Gn] [] 58 Xd [] (.bE (u1 f18))
theorem Xe:hS c18:=
 cO (hR [hA 1 0,hD 2 17 [cA 1]]) (hq x36 (hq x37 hz)) aI Tryz.call18 Tryz.func18
def GK(a0:Int)(a1:Int)(a2:Ph):Option (Ph×Zs):=
 some (a2,a2.1,a2.2.1,a0,a1,a2.2.2.2.2.1,a2.2.2.2.2.2.1,a2.2.2.2.2.2.2.2.2.2,([]:Zj),([]:Zh),([]:Zi))
def Xf:SS:=⟨20,60,[tP 6 23],[(0,bV jz),(23,fB 32 33 36),(32,.map bx cj),(33,.map bC .bool),(36,.row 74 40 bC)],[]⟩
def MV:aW:=aF G [.tmp 6] 29 [pP 0,vI,vI] [(0,bV jz)] 60 Xf [0,23,32,33,36] (.bE (u3 GK))
theorem MW:hS MV:=
 cO (hR [(3,⟨[.rp 23 [.cw 8] 36 74 40 bC],[],[],none,[],[],[]⟩)]) hz aI Tryz.call29 Tryz.func29
def vS:Nat→Int×Int×Zk×Int×Int×bT×NR→Option (cQ (Int×Int×bT×NR) Zs):=aK fun acK ⟨e,f,c,b,a,g,d,h,i,j,k,l⟩=>if(decide (a<b))=true then(if 0≤a then(if a<(List.length c:Int) then(if aY bx (nth aO c a).1 (nth aO c a).1=true then(if List.length d+1≤aE then(if(List.length (bw bx (.slice 64 aO) (nth aO c a).1 d)+List.length [nth aO c a])*64≤aE then(acK (e,f,c,b,aZ (a+1),g,bB bx (nth aO c a).1 ((bw bx (.slice 64 aO) (nth aO c a).1 d)++[nth aO c a]) (bB bx (nth aO c a).1 (Ty.aD (.slice 64 aO)) d),h,i,j,k,l)) else none) else none) else none) else none) else none) else(some (.brk (e,f,g,d,h,i,j,k,l)))
def vT:Nat→Int×Int×Zn×Int×Int×NR→Option (cQ (Int×Int×NR) Zs):=aK fun rec6 ⟨e,f,c,b,a,g,d,h,i,j,k⟩=>if(decide (a<b))=true then(if 0≤a then(if a<(List.length c:Int) then(if List.length d+1≤aE then(rec6 (e,f,c,b,aZ (a+1),g,bB (.int .i64) (nth bz c a).2.1 true d,h,i,j,k)) else none) else none) else none) else(some (.brk (e,f,g,d,h,i,j,k)))
def qo(a0:bT)(a1:Int)(a2:Int)(a3:Bool):Option Zs:=
 aG (U:=Int×Int×bT×NR) (vS (Int.toNat (List.length a0.2.1:Int)+1) (a1,a2,a0.2.1,(List.length a0.2.1:Int),0,a0,([]:ZJ),([]:Zm),a0,0,0,a3)) fun⟨b,c,a,d,e,f,g,h,i⟩=>aG (U:=Int×Int×NR) (vT (Int.toNat (List.length a.1.1.2.2.2.1:Int)+1) (b,c,a.1.1.2.2.2.1,(List.length a.1.1.2.2.2.1:Int),0,d,e,f,g,h,i)) fun⟨j,k,m,q,l,n,o,p⟩=>Option.bind (GK j k (l,some m,n,o,p,some q,(none:Option Zj),(none:Option Zh),([]:Zi),())) fun⟨_,r,s,t,u,v,w,x,y,z,aa⟩=>some (r,s,t,u,v,w,x,y,z,aa)
def Xg:SS:=⟨60,100,[tI 1,tI 2,tP 4 20,tP 9 35],[(20,bV fb),(31,.pmap bx (.slice 64 aO) 106),(33,.map (.int .i64) .bool),(35,.var jz (.cons (.val fb) (.cons (.mp 31) (.cons vI (.cons vI (.cons vB (.cons (.mp 33) (.cons .dP (.cons .dP (.cons .bA .nil))))))))))],[]⟩
def Xh:SS:=⟨60,100,[tI 1,tI 2,tP 9 35],[(31,.map bx (.slice 64 aO)),(33,.map (.int .i64) .bool),(35,.var jz (.cons (.val fb) (.cons (.mp 31) (.cons vI (.cons vI (.cons vB (.cons (.mp 33) (.cons .dP (.cons .dP (.cons .bA .nil))))))))))],[]⟩
def Xi:SS:=⟨60,100,[tI 1,tI 2,tP 4 20,tP 9 35,(21,.val (.slice 64 aO)),tI 22,tI 23],[(20,bV fb),(31,.pmap bx (.slice 64 aO) 106),(33,.map (.int .i64) .bool),(35,.var jz (.cons (.val fb) (.cons (.mp 31) (.cons vI (.cons vI (.cons vB (.cons (.mp 33) (.cons .dP (.cons .dP (.cons .bA .nil))))))))))],[]⟩
def Xj:SS:=⟨60,100,[tI 1,tI 2,tP 9 35,(43,.val (.slice 96 bz)),tI 44,tI 45],[(31,.map bx (.slice 64 aO)),(33,.map (.int .i64) .bool),(35,.var jz (.cons (.val fb) (.cons (.mp 31) (.cons vI (.cons vI (.cons vB (.cons (.mp 33) (.cons .dP (.cons .dP (.cons .bA .nil))))))))))],[]⟩
def Xk:SS:=⟨60,100,[tP 8 75],[(75,fB 76 77 78),(76,.map bx cj),(77,.map bC .bool),(78,.row 74 40 bC)],[]⟩
def MZ:aW:=aF G [.tmp 8] 27 [.val fb,vI,vI,vB] [] 100 Xk [75,76,77,78] (.bE (u4 qo))
theorem GL:hS MZ:=
 cO ⟨[(2,⟨[.FF 31 106],[],[],none,[],[],[]⟩),(5,⟨[],[],[],none,[],[.map 2 31 76 (.c 11 [.cw 0]),.eJ 31],[.rY 31,.lv 31]⟩),(7,⟨[.EA 31],[],[],none,[],[],[]⟩),(12,⟨[.freeze 31 (.map bx (.slice 64 aO)),.freeze 33 (.map (.int .i64) .bool),.Bb 35],[],[⟨[0],[(0,35)],[(23,75),(32,76),(33,77),(36,78)],[],[]⟩],none,[],[],[]⟩)],[(7,Xg),(12,Xh)],[],[(3,⟨Xi,fun u2=>Int.toNat u2.2.2.2.1+1⟩),(8,⟨Xj,fun u5=>Int.toNat u5.2.2.2.1+1⟩)],[],[]⟩ (hq MW hz) aI Tryz.call27 Tryz.func27
def BX(a0:Zm):Zf:=
 some a0
def Xl:SS:=⟨4,44,[(2,.func 73 .nil (.cons (pP 17) .nil))],[(0,.map (.int .i64) .bool),(17,.var (.map (.int .i64) .bool) (.mp 0))],[]⟩
def M0:aW:=aF G [.tmp 2] 45 [.mp 0] [(0,.map (.int .i64) .bool)] 44 Xl [0,17] (.bE (u1 BX))
theorem M5:hS M0:=
 cO (hR []) hz aI Tryz.call45 Tryz.func45
def BY(a0:Zm):Option (Zm×Ze):=
 Option.map (fun r=>(a0,r)) (yB a0)
def PO:SS:=⟨9,49,[(2,.own 23)],[(0,.var (.map (.int .i64) .bool) (.mp 1)),(1,.map (.int .i64) .bool),(23,.row 3 8 (.int .i64))],[]⟩
def M6:aW:=aF G [.tmp 2] 44 [.func 73 .nil (.cons (pP 0) .nil)] [(0,.var (.map (.int .i64) .bool) (.mp 1)),(1,.map (.int .i64) .bool)] 49 PO [0,1,23] (.bE (u1 BY))
theorem M7:hS M6:=
 ⟨fun d y h=>by
  obtain⟨r,hr,rfl⟩:=Option.map_eq_some_iff.1 (show Option.map _ (yB d.1)=some y from h)
  exact cast (by kernel_rfl) (Hn (tv:=(.map (.int .i64) .bool)) PR KC Na (show¬gl.md from fun h=>h) Tryz.call44 Tryz.call72 Tryz.call73 (by exact hr) 49 23 (by decide) (by decide) (by decide)),fun _ _ h=>h.elim⟩
end Go.Proofs.YtgdcjlldafmomaaGreat
