/- part -/
import Derived.Test.YtkhfnbfpgcjllaaGreatDoorUL
noncomputable section
namespace Go.Proofs.YtkhfnbfpgcjllaaGreatDoor
open Go.Ax
def AW(a0:aU)(a1:Int)(a2:Int)(a3:Int)(a4:Int):Option (Zh×xi):=
 Option.bind (vG a0.1) fun y1=>Option.bind (iq a0 a3 a4 (decide (y1=(0:Int)))) fun⟨a,b,c,d,e,f,g,h,i,j⟩=>Option.bind (jF a1 a2 a b c d e f g h i j) fun⟨k,l,m,n,o,p,q,r,s,t,u⟩=>if(!k)=true then(some (([]:Zh),(0,0,0,([]:Zd),()),0,([]:Zp),false,())) else(Option.bind (da (a1,a2,0,()) l m n o p q r s t u) fun⟨_,_,_,_,_,_,_,_,_,w,v⟩=>some (v,w))
def GK:SS:=⟨37,77,[tP 10 26,(11,.val (.slice 40 bP))],[(26,bV fq)],[]⟩
def UZ:bG:=aG G [.cell 10 86,.tmp 11] 27 [.val gA,vI,vI,vI,vI] [] 77 GK [] (.bY (u5 AW))
theorem Ms:hS UZ:=
 cO (hR [hE 1 [cA 0,cB 1 [] [(75,36),(76,53),(77,54),(78,55)]],hE 2 [cB 2 [(0,36),(1,53),(2,54),(3,55)] []],hE 4 [cB 3 [(0,36),(1,53),(2,54),(3,55)] [(93,47)]]]) (hq Tq (hq sf (hq sh (hq l4 hz)))) aJ Tryz.call27 Tryz.func27
def f9(a0:aU)(a1:Int)(a2:Int)(a3:Int)(a4:Int):Option (Zh×Bool×jq):=
 Option.bind (AW a0 a1 a2 a3 a4) fun⟨a,b⟩=>some (a,b.2.2.2.1,b.1)
def GL:SS:=⟨28,68,[tP 10 26,(11,.val (.slice 40 bP)),(12,vB)],[(26,bV bR)],[]⟩
def c9:bG:=aG G [.cell 10 39,.tmp 11,.tmp 12] 9 [.val gA,vI,vI,vI,vI] [] 68 GL [] (.bY (u5 f9))
theorem x9:hS c9:=
 cO (hR [hA 1 0]) (hq Ms hz) aJ Tryz.call9 Tryz.func9
def xA(a0:aU)(a1:Int)(a2:Int)(a3:Int)(a4:Int):Option (Int×Zp×Bool):=
 Option.bind (AW a0 a1 a2 a3 a4) fun⟨_,a⟩=>some (a.2.1,a.2.2.1,a.2.2.2.1)
def GM:SS:=⟨30,70,[tI 10,(11,.val (.slice 48 bR)),(12,vB)],[],[]⟩
def PC:bG:=aG G [.tmp 10,.tmp 11,.tmp 12] 10 [.val gA,vI,vI,vI,vI] [] 70 GM [] (.bY (u5 xA))
theorem Pv:hS PC:=
 cO (hR [hA 1 0]) (hq Ms hz) aJ Tryz.call10 Tryz.func10
def kf(a0:Int)(a1:Int)(a2:Int)(a3:aU)(a4:Zc)(a5:Int)(a6:Int)(a7:Bool)(a8:Ze)(a9:Unit)(a10:Zk)(a11:Zi)(a12:Zh):Zaa:=
 aI (U:=ZU) (if(aO (.int .i64) .bool a0 (bC a8))=true then(if(!decide (a2=(0:Int)))=true then(cU (some (false,a3,a4,a5,a6,a7,a8,a9,a10,a11,(0,0,0,([]:Zd),()),a12))) else(Option.bind (jF a0 a1 a3 a4 a5 a6 a7 a8 a9 a10 a11 a12) fun⟨a,b,c,d,e,f,g,h,i,j,k⟩=>if(!a)=true then(cU (some (false,b,c,d,e,f,g,h,i,j,(0,0,0,([]:Zd),()),k))) else(some (.aX (a0,a1,a2,b,c,d,e,f,g,h,i,j,k,0,0,0))))) else(some (.aX (a0,a1,a2,a3,a4,a5,a6,a7,a8,a9,a10,a11,a12,0,0,0)))) fun⟨l,m,n,o,p,q,r,s,t,u,v,w,x,_,_,_⟩=>Option.bind (da (l,m,n,()) o p q r s t u v w x) fun⟨z,aa,ab,ac,ad,ae,af,ag,ah,y,ai⟩=>some (y.2.2.2.1,z,aa,ab,ac,ad,ae,af,ag,ah,y.1,ai)
def GN:SS:=⟨39,79,[tP 0 0,tI 1,tI 2,tI 3,tP 8 24],[(0,fB 1 2 3),(1,.map aQ fq),(2,.map bP .bool),(3,.row 84 40 bP),(24,.var bR (.cons vI (.cons vI (.cons vI (.cons .aM .nil)))))],[]⟩
def GO:SS:=⟨39,79,[tP 8 24,(9,vB)],[(0,fB 1 2 55),(1,.map aQ fq),(2,.map bP .bool),(24,bV bR),(55,.row 84 40 bP)],[]⟩
def tF:bG:=aG G [.cell 8 39,.tmp 9] 66 [pP 0,vI,vI,vI] [(0,fB 1 2 3),(1,.map aQ fq),(2,.map bP .bool),(3,.row 84 40 bP)] 79 GO [0,1,2,55] (.bY (LU kf))
theorem tG:hS tF:=
 cO ⟨[hE 1 [cB 0 [(0,0),(1,1),(2,2),(3,3)] []],hE 3 [cB 1 [(0,0),(1,1),(2,2),(3,3)] [(93,50)]]],[(3,GN)],[],[],[],[]⟩ (hq sh (hq l4 hz)) aJ Tryz.call66 Tryz.func66
def fC:Zae:=aL fun apq ⟨p,o,ab,ac,n,m,q,r,s,t,u,v,w,x,y,aa,z⟩=>if(decide (m<n))=true then(Option.bind (kf o p m q r s t u v w x y z) fun⟨a,c,d,e,f,g,h,i,j,k,b,l⟩=>if a=true then(if(List.length aa+List.length [b])*48≤aF then(apq (p,o,ab,ac,n,aV (m+1),c,d,e,f,g,h,i,j,k,aa++[b],l)) else none) else(apq (p,o,ab,ac,n,aV (m+1),c,d,e,f,g,h,i,j,k,aa,l))) else(some (.aX (p,ab,ac,q,r,s,t,u,v,w,x,y,aa,z)))
def jG:Zat:=aL fun aoK ⟨ah,af,ae,ai,aj,ak,al,am,ag,an,ao,ap,aq,ar⟩=>if(decide (ae<af))=true then(aI (U:=ZL) (aI (U:=Int×Int×ZL) (if(aO (.int .i64) .bool ae (bC ag))=true then(some (.aX (ah,ae,1,af,ae,ai,aj,ak,al,am,ag,an,ao,ap,aq,ar))) else(some (.aX (ah,ae,4,af,ae,ai,aj,ak,al,am,ag,an,ao,ap,aq,ar)))) fun⟨b,c,a,d,e,f,g,h,i,j,k,l,m,n,o,p⟩=>fC (Int.toNat a+1) (b,c,d,e,a,0,f,g,h,i,j,k,l,m,n,o,p)) fun⟨q,r,s,t,u,v,w,x,y,z,aa,ab,ac,ad⟩=>aoK (q,r,aV (s+1),t,u,v,w,x,y,z,aa,ab,ac,ad)) else(some (.aX (ai,aj,ak,al,am,ag,an,ao,ap,aq,ar)))
def kg(a0:Int)(a1:aU)(a2:Zc)(a3:Int)(a4:Int)(a5:Bool)(a6:Ze)(a7:Unit)(a8:Zk)(a9:Zi)(a10:Zh):Option (Zp×Zt):=
 aI (U:=Zb) (jG (Int.toNat (List.length a1.1.1.2.2.1:Int)+1) (a0,(List.length a1.1.1.2.2.1:Int),0,a1,a2,a3,a4,a5,a6,a7,a8,a9,([]:Zp),a10)) fun⟨b,c,d,e,f,g,h,i,j,a,k⟩=>some (a,b,c,d,e,f,g,h,i,j,k)
def GP:SS:=⟨47,87,[tP 0 0,tI 1,(4,.own 67),tI 5,tI 6,tI 17,tI 18],[(0,fB 1 2 68),(1,.map aQ fq),(2,.map bP .bool),(67,.row 39 48 bR),(68,.row 84 40 bP)],[]⟩
def GQ:SS:=⟨47,87,[tP 0 0,tI 1,(4,.own 65),tI 17,tI 18],[(0,fB 1 2 66),(1,.map aQ fq),(2,.map bP .bool),(65,.row 39 48 bR),(66,.row 84 40 bP)],[]⟩
def GR:SS:=⟨47,87,[(4,.own 69)],[(0,fB 1 2 70),(1,.map aQ fq),(2,.map bP .bool),(69,.row 39 48 bR),(70,.row 84 40 bP)],[]⟩
def GS:SS:=⟨47,87,[tP 0 0,tI 1,(4,.own 67),tI 17,tI 18],[(0,fB 1 2 68),(1,.map aQ fq),(2,.map bP .bool),(67,.row 39 48 bR),(68,.row 84 40 bP)],[]⟩
def GU:SS:=⟨47,87,[tP 0 0,tI 1,(4,.own 63),tI 5,tI 17,tI 18,tI 27,tI 28],[(0,fB 1 2 64),(1,.map aQ fq),(2,.map bP .bool),(63,.row 39 48 bR),(64,.row 84 40 bP)],[]⟩
def GV:SS:=⟨47,87,[(4,.val (.slice 48 bR))],[(0,fB 1 2 70),(1,.map aQ fq),(2,.map bP .bool),(70,.row 84 40 bP)],[]⟩
def tH:bG:=aG G [.tmp 4] 43 [pP 0,vI] [(0,fB 1 2 3),(1,.map aQ fq),(2,.map bP .bool),(3,.row 84 40 bP)] 87 GV [0,1,2,70] (.bY (Ib kg))
theorem tJ:hS tH:=
 cO ⟨[hE 10 [cB 0 [(0,0),(1,1),(2,2),(3,64)] [(55,52)]]],[(7,GP),(14,GQ),(15,GR)],[],[(2,⟨GS,fun u2=>Int.toNat u2.2.1+1⟩),(8,⟨GU,fun u6=>Int.toNat u6.2.2.2.2.1+1⟩)],[],[]⟩ (hq tG hz) aJ Tryz.call43 Tryz.func43
def sW(a0:aU)(a1:Int)(a2:Int)(a3:Int):Option (Zp×Zh):=
 Option.bind (vG a0.1) fun y1=>Option.bind (iq a0 a2 a3 (decide (y1=(0:Int)))) fun⟨a,b,c,d,e,f,g,h,i,j⟩=>Option.bind (kg a1 a b c d e f g h i j) fun⟨k,_,_,_,_,_,_,_,_,_,l⟩=>some (k,l)
def GW:SS:=⟨27,67,[(8,.val (.slice 48 bR)),(9,.val (.slice 40 bP))],[],[]⟩
def U0:bG:=aG G [.tmp 8,.tmp 9] 20 [.val gA,vI,vI,vI] [] 67 GW [] (.bY (u4 sW))
theorem PD:hS U0:=
 cO (hR [hE 1 [cA 0,cB 1 [] [(75,34),(76,43),(77,44),(78,45)]],hE 2 [cB 2 [(0,34),(1,43),(2,44),(3,45)] [(70,37)]]]) (hq Tq (hq sf (hq tJ hz))) aJ Tryz.call20 Tryz.func20
def oi:Nat→Zd×Zd×Int→Zu:=aL fun aoK ⟨b,c,a⟩=>if(decide (a<(List.length b:Int)))=true then(if 0≤a then(if a<(List.length b:Int) then(if 0≤a then(if a<(List.length c:Int) then(if(!decide ((nth (.int .i64) b a)=(nth (.int .i64) c a)))=true then(cU (some false)) else(aoK (b,c,aV (a+1)))) else none) else none) else none) else none) else(some (.aX ()))
def Bf(a0:Zd)(a1:Zd):Zm:=
 if(!decide ((List.length a0:Int)=(List.length a1:Int)))=true then(some false) else(aI (U:=Unit) (oi dG (a0,a1,0)) fun _=>some true)
def GX:SS:=⟨26,66,[],[],[]⟩
def GY:SS:=⟨26,66,[(0,.val (.slice 8 (.int .i64))),(1,.val (.slice 8 (.int .i64))),tI 5],[],[]⟩
def GZ:SS:=⟨26,66,[(4,vB)],[],[]⟩
def U1:bG:=aG G [.tmp 4] 47 [.val (.slice 8 (.int .i64)),.val (.slice 8 (.int .i64))] [] 66 GZ [] (.bY (u2 Bf))
theorem U2:hS U1:=
 cO ⟨[],[(8,GX)],[],[(4,⟨GY,fun _=>dG⟩)],[],[]⟩ hz aJ Tryz.call47 Tryz.func47
def oY(a0:jq)(a1:jq):Zm:=
 Option.bind (α:=Bool) (if(decide (a0.1=a1.1))=true then(if(decide (a0.2.1=a1.2.1))=true then(if(decide (a0.2.2.1=a1.2.2.1))=true then(Option.bind (Bf a0.2.2.2.1 a1.2.2.2.1) fun y1=>some y1) else(some false)) else(some false)) else(some false)) fun v2=>some v2
def G0:SS:=⟨31,71,[(4,vB)],[],[]⟩
def U3:bG:=aG G [.tmp 4] 24 [.val bR,.val bR] [] 71 G0 [] (.bY (u2 oY))
theorem Mt:hS U3:=
 cO (hR [hD 1 4 [cA 0]]) (hq U2 hz) aJ Tryz.call24 Tryz.func24
def f7:Zm:=
 Option.bind (f25) fun⟨a,b⟩=>if(!a)=true then none else(Option.bind (f9 b (1:Int) (3:Int) (100:Int) (5:Int)) fun⟨d,c,e⟩=>Option.bind (f9 b (1:Int) (3:Int) (100:Int) (4:Int)) fun⟨g,f,_⟩=>Option.bind (f9 b (1:Int) (7:Int) (100:Int) (5:Int)) fun⟨_,h,_⟩=>Option.bind (xA b (1:Int) (3:Int) (100:Int) (5:Int)) fun⟨j,k,i⟩=>Option.bind (sW b (3:Int) (100:Int) (5:Int)) fun⟨l,_⟩=>Option.bind (sW (((([]:Zs),([]:Zv),([]:Zn),([]:Zl),([]:ZB),([]:Zy),()),([]:Zd),()),([]:Zj),()) (0:Int) (0:Int) (0:Int)) fun⟨m,n⟩=>Option.bind (f9 (((([]:Zs),([]:Zv),([]:Zn),([]:Zl),([]:ZB),([]:Zy),()),([]:Zd),()),([]:Zj),()) (0:Int) (0:Int) (0:Int) (0:Int)) fun⟨_,o,_⟩=>Option.bind (f9 b (0:Int) (3:Int) (100:Int) (5:Int)) fun⟨_,p,_⟩=>aI (U:=Zh×Zh×Zp×Zp×jq) (Option.bind (α:=Bool) (if(!c)=true then(some true) else(if f=true then(some true) else(if h=true then(some true) else(if(!i)=true then(some true) else(if o=true then(some true) else(if p=true then(some true) else(if(!decide (j=(0:Int)))=true then(some true) else(if(!decide ((List.length k:Int)=(2:Int)))=true then(some true) else(if(!decide ((List.length l:Int)=(2:Int)))=true then(some true) else(some (!decide ((aV ((List.length m:Int)+(List.length n:Int)))=(0:Int))))))))))))) fun v11=>if v11=true then none else(some (.aX (d,g,k,l,e)))) fun⟨r,s,t,u,q⟩=>Option.bind (oY q (1,3,0,[(3:Int),7,(50:Int)],())) fun y12=>if y12=true then(if(decide ((List.length r:Int)=(5:Int)))=true then(if(2:Int)<(List.length r:Int) then(if(bN bP (nth bP r (2:Int)) ((0,7,1,()),100,101,()))=true then(if(decide ((List.length s:Int)=(4:Int)))=true then(if(1:Int)<(List.length t:Int) then(Option.bind (oY (nth bR t (1:Int)) (0,7,1,[(7:Int),20,(9:Int)],())) fun y13=>if y13=true then(if(0:Int)<(List.length u:Int) then(if(0:Int)<(List.length t:Int) then(Option.bind (oY (nth bR u (0:Int)) (nth bR t (0:Int))) fun y14=>if y14=true then(if(1:Int)<(List.length u:Int) then(Option.bind (oY (nth bR u (1:Int)) q) fun y15=>some y15) else none) else(some false)) else none) else none) else(some false)) else none) else(some false)) else(some false)) else none) else(some false)) else(some false))
def G1:SS:=⟨163,203,[tP 3 19,(4,.val (.slice 40 bP)),(7,.val (.slice 40 bP)),(13,.val (.slice 48 bR)),(15,.val (.slice 48 bR))],[(19,bV bR)],[]⟩
def G2:SS:=⟨163,203,[(0,vB)],[],[]⟩
def c7:bG:=aG G [.tmp 0] 7 [] [] 203 G2 [] (.bY (fun _=>f7))
theorem x7:hS c7:=
 cO ⟨[hA 1 0,(3,⟨[],[],[],none,[(0,9999)],[],[]⟩),hA 4 1,hA 5 1,hA 6 1,hA 7 2,hA 8 3,hA 9 3,hA 10 1,hA 11 1,hD 12 116 [],(13,⟨[],[],[],none,[(0,9999)],[],[]⟩),hE 14 [cA 4,cA 4,cA 4,cA 4]],[(14,G1)],[],[],[],[]⟩ (hq x25 (hq x9 (hq Pv (hq PD (hq Mt hz))))) aJ Tryz.call7 Tryz.func7
def mP:Zz:=aL fun aoK ⟨a,b⟩=>if(decide (a<(List.length b.2.2.1:Int)))=true then(Option.bind (α:=Bool) (if 0≤a then(if a<(List.length b.2.2.1:Int) then(if(decide ((6:Int)<(List.length (nth aR b.2.2.1 a).2.2.2.2.1:Int)))=true then(some true) else(if 0≤a then(if a<(List.length b.2.2.1:Int) then(some (decide ((4:Int)<(List.length (nth aR b.2.2.1 a).2.2.2.2.2.1:Int)))) else none) else none)) else none) else none) fun v4=>if v4=true then(cU (some false)) else(aoK (aV (a+1),b))) else(some (.aX b))
def mQ:Zz:=aL fun apq ⟨a,b⟩=>if(decide (a<(List.length b.2.2.2.1:Int)))=true then(Option.bind (α:=Bool) (if 0≤a then(if a<(List.length b.2.2.2.1:Int) then(if(decide ((4:Int)<(List.length (nth bW b.2.2.2.1 a).2.2.1:Int)))=true then(some true) else(if 0≤a then(if a<(List.length b.2.2.2.1:Int) then(if(decide ((5:Int)<(List.length (nth bW b.2.2.2.1 a).2.2.2.1:Int)))=true then(some true) else(if 0≤a then(if a<(List.length b.2.2.2.1:Int) then(some (decide ((6:Int)<(List.length (nth bW b.2.2.2.1 a).2.2.2.2.1:Int)))) else none) else none)) else none) else none)) else none) else none) fun v8=>if v8=true then(cU (some false)) else(apq (aV (a+1),b))) else(some (.aX b))
def kO:Zz:=aL fun rec11 ⟨a,b⟩=>if(decide (a<(List.length b.2.2.2.2.1:Int)))=true then(if 0≤a then(if a<(List.length b.2.2.2.2.1:Int) then(if(decide ((6:Int)<(List.length (nth iN b.2.2.2.2.1 a).2.2.2.2.1:Int)))=true then(cU (some false)) else(rec11 (aV (a+1),b))) else none) else none) else(some (.aX b))
def kP:Zz:=aL fun rec14 ⟨a,b⟩=>if(decide (a<(List.length b.2.2.2.2.2.1:Int)))=true then(if 0≤a then(if a<(List.length b.2.2.2.2.2.1:Int) then(if(decide ((10:Int)<(List.length (nth fj b.2.2.2.2.2.1 a).2.1:Int)))=true then(cU (some false)) else(rec14 (aV (a+1),b))) else none) else none) else(some (.aX b))
def yJ(a0:bD):Zm:=
 aI (U:=bD) (mP dG (0,a0)) fun v1=>aI (U:=bD) (mQ dG (0,v1)) fun v5=>aI (U:=bD) (kO dG (0,v5)) fun v9=>aI (U:=bD) (kP dG (0,v9)) fun v12=>Option.bind (α:=Bool) (if(decide ((List.length v12.1:Int)≤(4:Int)))=true then(if(decide ((List.length v12.2.1:Int)≤(5:Int)))=true then(if(decide ((List.length v12.2.2.1:Int)≤(6:Int)))=true then(if(decide ((List.length v12.2.2.2.1:Int)≤(4:Int)))=true then(if(decide ((List.length v12.2.2.2.2.1:Int)≤(4:Int)))=true then(some (decide ((List.length v12.2.2.2.2.2.1:Int)≤(4:Int)))) else(some false)) else(some false)) else(some false)) else(some false)) else(some false)) fun v15=>some v15
def oZ:SS:=⟨131,171,[tP 1 17],[(17,bV eN)],[]⟩
def G3:SS:=⟨131,171,[tP 1 17,tI 3],[(17,bV eN)],[]⟩
def G4:SS:=⟨131,171,[tP 1 17,tI 4],[(17,bV eN)],[]⟩
def G5:SS:=⟨131,171,[tP 1 17,tI 5],[(17,bV eN)],[]⟩
def G6:SS:=⟨131,171,[tP 1 17,tI 6],[(17,bV eN)],[]⟩
def G7:SS:=⟨131,171,[(2,vB)],[],[]⟩
def U4:bG:=aG G [.tmp 2] 70 [.val eN] [] 171 G7 [] (.bY (u1 yJ))
theorem U5:hS U4:=
 cO ⟨[hD 4 31 [],hD 9 66 [],hD 21 2 []],[(6,oZ),(11,oZ),(16,oZ),(21,oZ)],[],[(2,⟨G3,fun _=>dG⟩),(7,⟨G4,fun _=>dG⟩),(12,⟨G5,fun _=>dG⟩),(17,⟨G6,fun _=>dG⟩)],[],[]⟩ hz aJ Tryz.call70 Tryz.func70
def G8(a0:GA):Zm:=
 Option.bind (α:=Bool) (Option.bind (yJ a0.1) fun y1=>if y1=true then(some (decide ((List.length a0.2.1:Int)≤(20:Int)))) else(some false)) fun v2=>some v2
def G9:SS:=⟨12,52,[(2,vB)],[],[]⟩
def U6:bG:=aG G [.tmp 2] 50 [.val H8] [] 52 G9 [] (.bY (u1 G8))
theorem U7:hS U6:=
 cO (hR [hD 1 2 [cA 0]]) (hq U5 hz) aJ Tryz.call50 Tryz.func50
def B0(a0:aU):Zm:=
 Option.bind (α:=Bool) (Option.bind (G8 a0.1) fun y1=>if y1=true then(some (decide ((List.length a0.2.1:Int)≤(60:Int)))) else(some false)) fun v2=>some v2
def Ha:SS:=⟨12,52,[(2,vB)],[],[]⟩
def U8:bG:=aG G [.tmp 2] 26 [.val gA] [] 52 Ha [] (.bY (u1 B0))
theorem U9:hS U8:=
 cO (hR [hD 1 2 [cA 0]]) (hq U7 hz) aJ Tryz.call26 Tryz.func26
def qX:Zah:=aL fun aoK ⟨a,c,b⟩=>if(decide (a<(List.length b.2.2.2.1:Int)))=true then(if 0≤a then(if a<(List.length b.2.2.2.1:Int) then(if(decide ((3:Int)<(List.length (nth bW b.2.2.2.1 a).2.2.1:Int)))=true then(cU (some false)) else(aoK (aV (a+1),c,b))) else none) else none) else(some (.aX (c,b)))
def f8(a0:aU):Zm:=
 aI (U:=aU×bD) (qX dG (0,a0,a0.1.1)) fun⟨a,b⟩=>Option.bind (α:=Bool) (Option.bind (B0 a) fun y4=>if y4=true then(if(decide ((List.length b.2.2.1:Int)≤(6:Int)))=true then(some (decide ((List.length b.2.2.2.1:Int)≤(5:Int)))) else(some false)) else(some false)) fun v5=>some v5
def Hb:SS:=⟨37,77,[tP 1 17,tP 3 19],[(17,bV gA),(19,bV eN)],[]⟩
def Hc:SS:=⟨37,77,[tP 1 17,tP 3 19,tI 4],[(17,bV gA),(19,bV eN)],[]⟩
def Hd:SS:=⟨37,77,[(2,vB)],[],[]⟩
def c8:bG:=aG G [.tmp 2] 8 [.val gA] [] 77 Hd [] (.bY (u1 f8))
theorem x8:hS c8:=
 cO ⟨[hD 7 2 [cA 0]],[(7,Hb)],[],[(3,⟨Hc,fun _=>dG⟩)],[],[]⟩ (hq U9 hz) aJ Tryz.call8 Tryz.func8
def MN:Nat→Int×Zj×Int×Int×Zj→Option (dR Zj Zj):=aL fun aoK ⟨d,c,b,a,e⟩=>if(decide (a<b))=true then(if 0≤a then(if a<(List.length c:Int) then(if(decide ((nth aN c a).2.2.2.1≤d))=true then(if(List.length e+List.length [nth aN c a])*64≤aF then(aoK (d,c,b,aV (a+1),e++[nth aN c a])) else none) else(aoK (d,c,b,aV (a+1),e))) else none) else none) else(some (.aX e))
def Z7(a0:Zj)(a1:Int):Option Zj:=
 aI (U:=Zj) (MN (Int.toNat (List.length a0:Int)+1) (a1,a0,(List.length a0:Int),0,([]:Zj))) fun v1=>some v1
def agH:SS:=⟨23,63,[(4,.own 40)],[(40,.row 119 64 aN)],[]⟩
def agI:SS:=⟨23,63,[tI 1,(4,.own 39),(7,.val (.slice 64 aN)),tI 8,tI 9],[(39,.row 119 64 aN)],[]⟩
def agJ:SS:=⟨23,63,[(4,.val (.slice 64 aN))],[],[]⟩
def c19:bG:=aG G [.tmp 4] 19 [.val (.slice 64 aN),vI] [] 63 agJ [] (.bY (u2 Z7))
theorem x19:hS c19:=
 cO ⟨[],[(7,agH)],[],[(2,⟨agI,fun u2=>Int.toNat u2.2.2.1+1⟩)],[],[]⟩ hz aJ Tryz.call19 Tryz.func19
def yM:Nat→Zp×Zp×Int→Zu:=aL fun aoK ⟨b,c,a⟩=>if(decide (a<(List.length b:Int)))=true then(if 0≤a then(if a<(List.length b:Int) then(if 0≤a then(if a<(List.length c:Int) then(Option.bind (oY (nth bR b a) (nth bR c a)) fun y4=>if(!y4)=true then(cU (some false)) else(aoK (b,c,aV (a+1)))) else none) else none) else none) else none) else(some (.aX ()))
def Co(a0:Zp)(a1:Zp):Zm:=
 if(!decide ((List.length a0:Int)=(List.length a1:Int)))=true then(some false) else(aI (U:=Unit) (yM dG (a0,a1,0)) fun _=>some true)
def Vu:SS:=⟨27,67,[],[],[]⟩
def Vv:SS:=⟨27,67,[(0,.val (.slice 48 bR)),(1,.val (.slice 48 bR)),tI 5],[],[]⟩
def Vw:SS:=⟨27,67,[(4,vB)],[],[]⟩
def c21:bG:=aG G [.tmp 4] 21 [.val (.slice 48 bR),.val (.slice 48 bR)] [] 67 Vw [] (.bY (u2 Co))
theorem x21:hS c21:=
 cO ⟨[hA 6 0],[(8,Vu)],[],[(4,⟨Vv,fun _=>dG⟩)],[],[]⟩ (hq Mt hz) aJ Tryz.call21 Tryz.func21
def yN:Nat→Zh×Zh×Int→Zu:=aL fun aoK ⟨b,c,a⟩=>if(decide (a<(List.length b:Int)))=true then(if 0≤a then(if a<(List.length b:Int) then(if 0≤a then(if a<(List.length c:Int) then(if(!bN bP (nth bP b a) (nth bP c a))=true then(cU (some false)) else(aoK (b,c,aV (a+1)))) else none) else none) else none) else none) else(some (.aX ()))
def Cp(a0:Zh)(a1:Zh):Zm:=
 if(!decide ((List.length a0:Int)=(List.length a1:Int)))=true then(some false) else(aI (U:=Unit) (yN dG (a0,a1,0)) fun _=>some true)
def Vx:SS:=⟨26,66,[],[],[]⟩
def Vy:SS:=⟨26,66,[(0,.val (.slice 40 bP)),(1,.val (.slice 40 bP)),tI 5],[],[]⟩
def Vz:SS:=⟨26,66,[(4,vB)],[],[]⟩
def c22:bG:=aG G [.tmp 4] 22 [.val (.slice 40 bP),.val (.slice 40 bP)] [] 66 Vz [] (.bY (u2 Cp))
theorem x22:hS c22:=
 cO ⟨[],[(8,Vx)],[],[(4,⟨Vy,fun _=>dG⟩)],[],[]⟩ hz aJ Tryz.call22 Tryz.func22
def f5(a0:aU)(a1:Int)(a2:Int)(a3:Int):Zm:=
 Option.bind (f7) fun y1=>if(!y1)=true then(some false) else(Option.bind (f8 a0) fun y2=>if(!y2)=true then(some true) else(Option.bind (Z7 a0.2.1 a3) fun y3=>Option.bind (sW a0 a1 a2 a3) fun⟨a,b⟩=>Option.bind (sW (a0.1,y3,a0.2.2) a1 a2 a3) fun⟨c,d⟩=>Option.bind (α:=Bool) (Option.bind (Co a c) fun y6=>if y6=true then(Option.bind (Cp b d) fun y7=>some y7) else(some false)) fun v8=>some v8))
def agK:SS:=⟨49,89,[(8,vB)],[],[]⟩
def c5:bG:=aG G [.tmp 8] 5 [.val gA,vI,vI,vI] [] 89 agK [] (.bY (fun d=>f5 d.1 d.2.1 d.2.2.1 d.2.2.2.1))
theorem x5:hS c5:=
 cO (hR [hA 1 0,hA 3 1,hA 6 2,hA 7 3,hA 8 3,hD 9 8 [cA 4,cA 5]]) (hq x7 (hq x8 (hq x19 (hq PD (hq x21 (hq x22 hz)))))) aJ Tryz.call5 Tryz.func5
end Go.Proofs.YtkhfnbfpgcjllaaGreatDoor
