/- part -/
import Derived.Test.YtkhfnbfpgcjllaaGreatDoorUL
noncomputable section
namespace Go.Proofs.YtkhfnbfpgcjllaaGreatDoor
open Go.Ax
def A2(a0:aV)(a1:Int)(a2:Int)(a3:Int)(a4:Int):Option (Zi×xw):=
 Option.bind (vT a0.1) fun y1=>Option.bind (iz a0 a3 a4 (decide (y1=(0:Int)))) fun⟨a,b,c,d,e,f,g,h,i,j⟩=>Option.bind (jO a1 a2 a b c d e f g h i j) fun⟨k,l,m,n,o,p,q,r,s,t,u⟩=>if(!k)=true then(some (([]:Zi),(0,0,0,([]:Zd),()),0,([]:Zo),false,())) else(Option.bind (cF (a1,a2,0,()) l m n o p q r s t u) fun⟨_,_,_,_,_,_,_,_,_,w,v⟩=>some (v,w))
def GP:SS:=⟨37,77,[tP 10 26,(11,.val (.slice 40 bN))],[(26,bV fA)],[]⟩
def U5:bH:=aI G [.cell 10 86,.tmp 11] 27 [.val gH,vI,vI,vI,vI] [] 77 GP [] (.bZ (u5 A2))
theorem Mv:hS U5:=
 cO (hR [hE 1 [cA 0,cB 1 [] [(75,36),(76,53),(77,54),(78,55)]],hE 2 [cB 2 [(0,36),(1,53),(2,54),(3,55)] []],hE 4 [cB 3 [(0,36),(1,53),(2,54),(3,55)] [(93,47)]]]) (hq Tv (hq sA (hq sB (hq mh hz)))) aJ Tryz.call27 Tryz.func27
def f9(a0:aV)(a1:Int)(a2:Int)(a3:Int)(a4:Int):Option (Zi×Bool×jB):=
 Option.bind (A2 a0 a1 a2 a3 a4) fun⟨a,b⟩=>some (a,b.2.2.2.1,b.1)
def GQ:SS:=⟨28,68,[tP 10 26,(11,.val (.slice 40 bN)),(12,vB)],[(26,bV bS)],[]⟩
def c9:bH:=aI G [.cell 10 39,.tmp 11,.tmp 12] 9 [.val gH,vI,vI,vI,vI] [] 68 GQ [] (.bZ (u5 f9))
theorem x9:hS c9:=
 cO (hR [hA 1 0]) (hq Mv hz) aJ Tryz.call9 Tryz.func9
def xL(a0:aV)(a1:Int)(a2:Int)(a3:Int)(a4:Int):Option (Int×Zo×Bool):=
 Option.bind (A2 a0 a1 a2 a3 a4) fun⟨_,a⟩=>some (a.2.1,a.2.2.1,a.2.2.2.1)
def GR:SS:=⟨30,70,[tI 10,(11,.val (.slice 48 bS)),(12,vB)],[],[]⟩
def PH:bH:=aI G [.tmp 10,.tmp 11,.tmp 12] 10 [.val gH,vI,vI,vI,vI] [] 70 GR [] (.bZ (u5 xL))
theorem Pz:hS PH:=
 cO (hR [hA 1 0]) (hq Mv hz) aJ Tryz.call10 Tryz.func10
def iZ(a0:Int)(a1:Int)(a2:Int)(a3:aV)(a4:Zc)(a5:Int)(a6:Int)(a7:Bool)(a8:Ze)(a9:Unit)(a10:Zk)(a11:Zj)(a12:Zi):Zae:=
 aG (U:=ZY) (if(aO (.int .i64) .bool a0 (bA a8))=true then(if(!decide (a2=(0:Int)))=true then(cN (some (false,a3,a4,a5,a6,a7,a8,a9,a10,a11,(0,0,0,([]:Zd),()),a12))) else(Option.bind (jO a0 a1 a3 a4 a5 a6 a7 a8 a9 a10 a11 a12) fun⟨a,b,c,d,e,f,g,h,i,j,k⟩=>if(!a)=true then(cN (some (false,b,c,d,e,f,g,h,i,j,(0,0,0,([]:Zd),()),k))) else(some (.aS (a0,a1,a2,b,c,d,e,f,g,h,i,j,k,0,0,0))))) else(some (.aS (a0,a1,a2,a3,a4,a5,a6,a7,a8,a9,a10,a11,a12,0,0,0)))) fun⟨l,m,n,o,p,q,r,s,t,u,v,w,x,_,_,_⟩=>Option.bind (cF (l,m,n,()) o p q r s t u v w x) fun⟨z,aa,ab,ac,ad,ae,af,ag,ah,y,ai⟩=>some (y.2.2.2.1,z,aa,ab,ac,ad,ae,af,ag,ah,y.1,ai)
def GS:SS:=⟨39,79,[tP 0 0,tI 1,tI 2,tI 3,tP 8 24],[(0,fB 1 2 3),(1,.map aR fA),(2,.map bN .bool),(3,.row 84 40 bN),(24,.var bS (.cons vI (.cons vI (.cons vI (.cons .aM .nil)))))],[]⟩
def GU:SS:=⟨39,79,[tP 8 24,(9,vB)],[(0,fB 1 2 55),(1,.map aR fA),(2,.map bN .bool),(24,bV bS),(55,.row 84 40 bN)],[]⟩
def tR:bH:=aI G [.cell 8 39,.tmp 9] 66 [pP 0,vI,vI,vI] [(0,fB 1 2 3),(1,.map aR fA),(2,.map bN .bool),(3,.row 84 40 bN)] 79 GU [0,1,2,55] (.bZ (L0 iZ))
theorem tT:hS tR:=
 cO ⟨[hE 1 [cB 0 [(0,0),(1,1),(2,2),(3,3)] []],hE 3 [cB 1 [(0,0),(1,1),(2,2),(3,3)] [(93,50)]]],[(3,GS)],[],[],[],[]⟩ (hq sB (hq mh hz)) aJ Tryz.call66 Tryz.func66
def dG:Zai:=aL fun apt ⟨p,o,ab,ac,n,m,q,r,s,t,u,v,w,x,y,aa,z⟩=>if(decide (m<n))=true then(Option.bind (iZ o p m q r s t u v w x y z) fun⟨a,c,d,e,f,g,h,i,j,k,b,l⟩=>if a=true then(if(List.length aa+List.length [b])*48≤aF then(apt (p,o,ab,ac,n,aQ (m+1),c,d,e,f,g,h,i,j,k,aa++[b],l)) else none) else(apt (p,o,ab,ac,n,aQ (m+1),c,d,e,f,g,h,i,j,k,aa,l))) else(some (.aS (p,ab,ac,q,r,s,t,u,v,w,x,y,aa,z)))
def iE:Zay:=aL fun aoP ⟨ah,af,ae,ai,aj,ak,al,am,ag,an,ao,ap,aq,ar⟩=>if(decide (ae<af))=true then(aG (U:=ZM) (aG (U:=Int×Int×ZM) (if(aO (.int .i64) .bool ae (bA ag))=true then(some (.aS (ah,ae,1,af,ae,ai,aj,ak,al,am,ag,an,ao,ap,aq,ar))) else(some (.aS (ah,ae,4,af,ae,ai,aj,ak,al,am,ag,an,ao,ap,aq,ar)))) fun⟨b,c,a,d,e,f,g,h,i,j,k,l,m,n,o,p⟩=>dG (Int.toNat a+1) (b,c,d,e,a,0,f,g,h,i,j,k,l,m,n,o,p)) fun⟨q,r,s,t,u,v,w,x,y,z,aa,ab,ac,ad⟩=>aoP (q,r,aQ (s+1),t,u,v,w,x,y,z,aa,ab,ac,ad)) else(some (.aS (ai,aj,ak,al,am,ag,an,ao,ap,aq,ar)))
def i2(a0:Int)(a1:aV)(a2:Zc)(a3:Int)(a4:Int)(a5:Bool)(a6:Ze)(a7:Unit)(a8:Zk)(a9:Zj)(a10:Zi):Option (Zo×Zt):=
 aG (U:=Zb) (iE (Int.toNat (List.length a1.1.1.2.2.1:Int)+1) (a0,(List.length a1.1.1.2.2.1:Int),0,a1,a2,a3,a4,a5,a6,a7,a8,a9,([]:Zo),a10)) fun⟨b,c,d,e,f,g,h,i,j,a,k⟩=>some (a,b,c,d,e,f,g,h,i,j,k)
def GV:SS:=⟨47,87,[tP 0 0,tI 1,(4,.own 67),tI 5,tI 6,tI 17,tI 18],[(0,fB 1 2 68),(1,.map aR fA),(2,.map bN .bool),(67,.row 39 48 bS),(68,.row 84 40 bN)],[]⟩
def GW:SS:=⟨47,87,[tP 0 0,tI 1,(4,.own 65),tI 17,tI 18],[(0,fB 1 2 66),(1,.map aR fA),(2,.map bN .bool),(65,.row 39 48 bS),(66,.row 84 40 bN)],[]⟩
def GX:SS:=⟨47,87,[(4,.own 69)],[(0,fB 1 2 70),(1,.map aR fA),(2,.map bN .bool),(69,.row 39 48 bS),(70,.row 84 40 bN)],[]⟩
def GY:SS:=⟨47,87,[tP 0 0,tI 1,(4,.own 67),tI 17,tI 18],[(0,fB 1 2 68),(1,.map aR fA),(2,.map bN .bool),(67,.row 39 48 bS),(68,.row 84 40 bN)],[]⟩
def GZ:SS:=⟨47,87,[tP 0 0,tI 1,(4,.own 63),tI 5,tI 17,tI 18,tI 27,tI 28],[(0,fB 1 2 64),(1,.map aR fA),(2,.map bN .bool),(63,.row 39 48 bS),(64,.row 84 40 bN)],[]⟩
def G0:SS:=⟨47,87,[(4,.val (.slice 48 bS))],[(0,fB 1 2 70),(1,.map aR fA),(2,.map bN .bool),(70,.row 84 40 bN)],[]⟩
def tU:bH:=aI G [.tmp 4] 43 [pP 0,vI] [(0,fB 1 2 3),(1,.map aR fA),(2,.map bN .bool),(3,.row 84 40 bN)] 87 G0 [0,1,2,70] (.bZ (Ii i2))
theorem tV:hS tU:=
 cO ⟨[hE 10 [cB 0 [(0,0),(1,1),(2,2),(3,64)] [(55,52)]]],[(7,GV),(14,GW),(15,GX)],[],[(2,⟨GY,fun u2=>Int.toNat u2.2.1+1⟩),(8,⟨GZ,fun u6=>Int.toNat u6.2.2.2.2.1+1⟩)],[],[]⟩ (hq tT hz) aJ Tryz.call43 Tryz.func43
def tn(a0:aV)(a1:Int)(a2:Int)(a3:Int):Option (Zo×Zi):=
 Option.bind (vT a0.1) fun y1=>Option.bind (iz a0 a2 a3 (decide (y1=(0:Int)))) fun⟨a,b,c,d,e,f,g,h,i,j⟩=>Option.bind (i2 a1 a b c d e f g h i j) fun⟨k,_,_,_,_,_,_,_,_,_,l⟩=>some (k,l)
def G1:SS:=⟨27,67,[(8,.val (.slice 48 bS)),(9,.val (.slice 40 bN))],[],[]⟩
def U6:bH:=aI G [.tmp 8,.tmp 9] 20 [.val gH,vI,vI,vI] [] 67 G1 [] (.bZ (u4 tn))
theorem PI:hS U6:=
 cO (hR [hE 1 [cA 0,cB 1 [] [(75,34),(76,43),(77,44),(78,45)]],hE 2 [cB 2 [(0,34),(1,43),(2,44),(3,45)] [(70,37)]]]) (hq Tv (hq sA (hq tV hz))) aJ Tryz.call20 Tryz.func20
def oA:Nat→Zd×Zd×Int→Zu:=aL fun aoP ⟨b,c,a⟩=>if(decide (a<(List.length b:Int)))=true then(if 0≤a then(if a<(List.length b:Int) then(if 0≤a then(if a<(List.length c:Int) then(if(!decide ((nth (.int .i64) b a)=(nth (.int .i64) c a)))=true then(cN (some false)) else(aoP (b,c,aQ (a+1)))) else none) else none) else none) else none) else(some (.aS ()))
def Bn(a0:Zd)(a1:Zd):Zm:=
 if(!decide ((List.length a0:Int)=(List.length a1:Int)))=true then(some false) else(aG (U:=Unit) (oA dA (a0,a1,0)) fun _=>some true)
def G2:SS:=⟨26,66,[],[],[]⟩
def G3:SS:=⟨26,66,[(0,.val (.slice 8 (.int .i64))),(1,.val (.slice 8 (.int .i64))),tI 5],[],[]⟩
def G4:SS:=⟨26,66,[(4,vB)],[],[]⟩
def U7:bH:=aI G [.tmp 4] 47 [.val (.slice 8 (.int .i64)),.val (.slice 8 (.int .i64))] [] 66 G4 [] (.bZ (u2 Bn))
theorem U8:hS U7:=
 cO ⟨[],[(8,G2)],[],[(4,⟨G3,fun _=>dA⟩)],[],[]⟩ hz aJ Tryz.call47 Tryz.func47
def oI(a0:jB)(a1:jB):Zm:=
 Option.bind (α:=Bool) (if(decide (a0.1=a1.1))=true then(if(decide (a0.2.1=a1.2.1))=true then(if(decide (a0.2.2.1=a1.2.2.1))=true then(Option.bind (Bn a0.2.2.2.1 a1.2.2.2.1) fun y1=>some y1) else(some false)) else(some false)) else(some false)) fun v2=>some v2
def G5:SS:=⟨31,71,[(4,vB)],[],[]⟩
def U9:bH:=aI G [.tmp 4] 24 [.val bS,.val bS] [] 71 G5 [] (.bZ (u2 oI))
theorem Mw:hS U9:=
 cO (hR [hD 1 4 [cA 0]]) (hq U8 hz) aJ Tryz.call24 Tryz.func24
def f7:Zm:=
 Option.bind (f25) fun⟨a,b⟩=>if(!a)=true then none else(Option.bind (f9 b (1:Int) (3:Int) (100:Int) (5:Int)) fun⟨d,c,e⟩=>Option.bind (f9 b (1:Int) (3:Int) (100:Int) (4:Int)) fun⟨g,f,_⟩=>Option.bind (f9 b (1:Int) (7:Int) (100:Int) (5:Int)) fun⟨_,h,_⟩=>Option.bind (xL b (1:Int) (3:Int) (100:Int) (5:Int)) fun⟨j,k,i⟩=>Option.bind (tn b (3:Int) (100:Int) (5:Int)) fun⟨l,_⟩=>Option.bind (tn (((([]:Zs),([]:Zw),([]:Zn),([]:Zl),([]:ZC),([]:Zz),()),([]:Zd),()),([]:Zh),()) (0:Int) (0:Int) (0:Int)) fun⟨m,n⟩=>Option.bind (f9 (((([]:Zs),([]:Zw),([]:Zn),([]:Zl),([]:ZC),([]:Zz),()),([]:Zd),()),([]:Zh),()) (0:Int) (0:Int) (0:Int) (0:Int)) fun⟨_,o,_⟩=>Option.bind (f9 b (0:Int) (3:Int) (100:Int) (5:Int)) fun⟨_,p,_⟩=>aG (U:=Zi×Zi×Zo×Zo×jB) (Option.bind (α:=Bool) (if(!c)=true then(some true) else(if f=true then(some true) else(if h=true then(some true) else(if(!i)=true then(some true) else(if o=true then(some true) else(if p=true then(some true) else(if(!decide (j=(0:Int)))=true then(some true) else(if(!decide ((List.length k:Int)=(2:Int)))=true then(some true) else(if(!decide ((List.length l:Int)=(2:Int)))=true then(some true) else(some (!decide ((aQ ((List.length m:Int)+(List.length n:Int)))=(0:Int))))))))))))) fun v11=>if v11=true then none else(some (.aS (d,g,k,l,e)))) fun⟨r,s,t,u,q⟩=>Option.bind (oI q (1,3,0,[(3:Int),7,(50:Int)],())) fun y12=>if y12=true then(if(decide ((List.length r:Int)=(5:Int)))=true then(if(2:Int)<(List.length r:Int) then(if(bM bN (nth bN r (2:Int)) ((0,7,1,()),100,101,()))=true then(if(decide ((List.length s:Int)=(4:Int)))=true then(if(1:Int)<(List.length t:Int) then(Option.bind (oI (nth bS t (1:Int)) (0,7,1,[(7:Int),20,(9:Int)],())) fun y13=>if y13=true then(if(0:Int)<(List.length u:Int) then(if(0:Int)<(List.length t:Int) then(Option.bind (oI (nth bS u (0:Int)) (nth bS t (0:Int))) fun y14=>if y14=true then(if(1:Int)<(List.length u:Int) then(Option.bind (oI (nth bS u (1:Int)) q) fun y15=>some y15) else none) else(some false)) else none) else none) else(some false)) else none) else(some false)) else(some false)) else none) else(some false)) else(some false))
def G6:SS:=⟨163,203,[tP 3 19,(4,.val (.slice 40 bN)),(7,.val (.slice 40 bN)),(13,.val (.slice 48 bS)),(15,.val (.slice 48 bS))],[(19,bV bS)],[]⟩
def G7:SS:=⟨163,203,[(0,vB)],[],[]⟩
def c7:bH:=aI G [.tmp 0] 7 [] [] 203 G7 [] (.bZ (fun _=>f7))
theorem x7:hS c7:=
 cO ⟨[hA 1 0,(3,⟨[],[],[],none,[(0,9999)],[],[]⟩),hA 4 1,hA 5 1,hA 6 1,hA 7 2,hA 8 3,hA 9 3,hA 10 1,hA 11 1,hD 12 116 [],(13,⟨[],[],[],none,[(0,9999)],[],[]⟩),hE 14 [cA 4,cA 4,cA 4,cA 4]],[(14,G6)],[],[],[],[]⟩ (hq x25 (hq x9 (hq Pz (hq PI (hq Mw hz))))) aJ Tryz.call7 Tryz.func7
def mX:ZA:=aL fun aoP ⟨a,b⟩=>if(decide (a<(List.length b.2.2.1:Int)))=true then(Option.bind (α:=Bool) (if 0≤a then(if a<(List.length b.2.2.1:Int) then(if(decide ((6:Int)<(List.length (nth aU b.2.2.1 a).2.2.2.2.1:Int)))=true then(some true) else(if 0≤a then(if a<(List.length b.2.2.1:Int) then(some (decide ((4:Int)<(List.length (nth aU b.2.2.1 a).2.2.2.2.2.1:Int)))) else none) else none)) else none) else none) fun v4=>if v4=true then(cN (some false)) else(aoP (aQ (a+1),b))) else(some (.aS b))
def mY:ZA:=aL fun apt ⟨a,b⟩=>if(decide (a<(List.length b.2.2.2.1:Int)))=true then(Option.bind (α:=Bool) (if 0≤a then(if a<(List.length b.2.2.2.1:Int) then(if(decide ((4:Int)<(List.length (nth bX b.2.2.2.1 a).2.2.1:Int)))=true then(some true) else(if 0≤a then(if a<(List.length b.2.2.2.1:Int) then(if(decide ((5:Int)<(List.length (nth bX b.2.2.2.1 a).2.2.2.1:Int)))=true then(some true) else(if 0≤a then(if a<(List.length b.2.2.2.1:Int) then(some (decide ((6:Int)<(List.length (nth bX b.2.2.2.1 a).2.2.2.2.1:Int)))) else none) else none)) else none) else none)) else none) else none) fun v8=>if v8=true then(cN (some false)) else(apt (aQ (a+1),b))) else(some (.aS b))
def kV:ZA:=aL fun apn ⟨a,b⟩=>if(decide (a<(List.length b.2.2.2.2.1:Int)))=true then(if 0≤a then(if a<(List.length b.2.2.2.2.1:Int) then(if(decide ((6:Int)<(List.length (nth iU b.2.2.2.2.1 a).2.2.2.2.1:Int)))=true then(cN (some false)) else(apn (aQ (a+1),b))) else none) else none) else(some (.aS b))
def kW:ZA:=aL fun rec14 ⟨a,b⟩=>if(decide (a<(List.length b.2.2.2.2.2.1:Int)))=true then(if 0≤a then(if a<(List.length b.2.2.2.2.2.1:Int) then(if(decide ((10:Int)<(List.length (nth fv b.2.2.2.2.2.1 a).2.1:Int)))=true then(cN (some false)) else(rec14 (aQ (a+1),b))) else none) else none) else(some (.aS b))
def yT(a0:bF):Zm:=
 aG (U:=bF) (mX dA (0,a0)) fun v1=>aG (U:=bF) (mY dA (0,v1)) fun v5=>aG (U:=bF) (kV dA (0,v5)) fun v9=>aG (U:=bF) (kW dA (0,v9)) fun v12=>Option.bind (α:=Bool) (if(decide ((List.length v12.1:Int)≤(4:Int)))=true then(if(decide ((List.length v12.2.1:Int)≤(5:Int)))=true then(if(decide ((List.length v12.2.2.1:Int)≤(6:Int)))=true then(if(decide ((List.length v12.2.2.2.1:Int)≤(4:Int)))=true then(if(decide ((List.length v12.2.2.2.2.1:Int)≤(4:Int)))=true then(some (decide ((List.length v12.2.2.2.2.2.1:Int)≤(4:Int)))) else(some false)) else(some false)) else(some false)) else(some false)) else(some false)) fun v15=>some v15
def po:SS:=⟨131,171,[tP 1 17],[(17,bV eR)],[]⟩
def G8:SS:=⟨131,171,[tP 1 17,tI 3],[(17,bV eR)],[]⟩
def G9:SS:=⟨131,171,[tP 1 17,tI 4],[(17,bV eR)],[]⟩
def Ha:SS:=⟨131,171,[tP 1 17,tI 5],[(17,bV eR)],[]⟩
def Hb:SS:=⟨131,171,[tP 1 17,tI 6],[(17,bV eR)],[]⟩
def Hc:SS:=⟨131,171,[(2,vB)],[],[]⟩
def Va:bH:=aI G [.tmp 2] 70 [.val eR] [] 171 Hc [] (.bZ (u1 yT))
theorem Vb:hS Va:=
 cO ⟨[hD 4 31 [],hD 9 66 [],hD 21 2 []],[(6,po),(11,po),(16,po),(21,po)],[],[(2,⟨G8,fun _=>dA⟩),(7,⟨G9,fun _=>dA⟩),(12,⟨Ha,fun _=>dA⟩),(17,⟨Hb,fun _=>dA⟩)],[],[]⟩ hz aJ Tryz.call70 Tryz.func70
def Hd(a0:GH):Zm:=
 Option.bind (α:=Bool) (Option.bind (yT a0.1) fun y1=>if y1=true then(some (decide ((List.length a0.2.1:Int)≤(20:Int)))) else(some false)) fun v2=>some v2
def He:SS:=⟨12,52,[(2,vB)],[],[]⟩
def Vc:bH:=aI G [.tmp 2] 50 [.val Ie] [] 52 He [] (.bZ (u1 Hd))
theorem Vd:hS Vc:=
 cO (hR [hD 1 2 [cA 0]]) (hq Vb hz) aJ Tryz.call50 Tryz.func50
def B8(a0:aV):Zm:=
 Option.bind (α:=Bool) (Option.bind (Hd a0.1) fun y1=>if y1=true then(some (decide ((List.length a0.2.1:Int)≤(60:Int)))) else(some false)) fun v2=>some v2
def Hf:SS:=⟨12,52,[(2,vB)],[],[]⟩
def Ve:bH:=aI G [.tmp 2] 26 [.val gH] [] 52 Hf [] (.bZ (u1 B8))
theorem Vf:hS Ve:=
 cO (hR [hD 1 2 [cA 0]]) (hq Vd hz) aJ Tryz.call26 Tryz.func26
def rA:Zal:=aL fun aoP ⟨a,c,b⟩=>if(decide (a<(List.length b.2.2.2.1:Int)))=true then(if 0≤a then(if a<(List.length b.2.2.2.1:Int) then(if(decide ((3:Int)<(List.length (nth bX b.2.2.2.1 a).2.2.1:Int)))=true then(cN (some false)) else(aoP (aQ (a+1),c,b))) else none) else none) else(some (.aS (c,b)))
def f8(a0:aV):Zm:=
 aG (U:=aV×bF) (rA dA (0,a0,a0.1.1)) fun⟨a,b⟩=>Option.bind (α:=Bool) (Option.bind (B8 a) fun y4=>if y4=true then(if(decide ((List.length b.2.2.1:Int)≤(6:Int)))=true then(some (decide ((List.length b.2.2.2.1:Int)≤(5:Int)))) else(some false)) else(some false)) fun v5=>some v5
def Hg:SS:=⟨37,77,[tP 1 17,tP 3 19],[(17,bV gH),(19,bV eR)],[]⟩
def Hh:SS:=⟨37,77,[tP 1 17,tP 3 19,tI 4],[(17,bV gH),(19,bV eR)],[]⟩
def Hi:SS:=⟨37,77,[(2,vB)],[],[]⟩
def c8:bH:=aI G [.tmp 2] 8 [.val gH] [] 77 Hi [] (.bZ (u1 f8))
theorem x8:hS c8:=
 cO ⟨[hD 7 2 [cA 0]],[(7,Hg)],[],[(3,⟨Hh,fun _=>dA⟩)],[],[]⟩ (hq Vf hz) aJ Tryz.call8 Tryz.func8
def pq:Nat→Zo×Zo×Int→Zu:=aL fun aoP ⟨b,c,a⟩=>if(decide (a<(List.length b:Int)))=true then(if 0≤a then(if a<(List.length b:Int) then(if 0≤a then(if a<(List.length c:Int) then(Option.bind (oI (nth bS b a) (nth bS c a)) fun y4=>if(!y4)=true then(cN (some false)) else(aoP (b,c,aQ (a+1)))) else none) else none) else none) else none) else(some (.aS ()))
def A3(a0:Zo)(a1:Zo):Zm:=
 if(!decide ((List.length a0:Int)=(List.length a1:Int)))=true then(some false) else(aG (U:=Unit) (pq dA (a0,a1,0)) fun _=>some true)
def pt:Nat→Zi×Zi×Int→Zu:=aL fun aoP ⟨b,c,a⟩=>if(decide (a<(List.length b:Int)))=true then(if 0≤a then(if a<(List.length b:Int) then(if 0≤a then(if a<(List.length c:Int) then(if(!bM bN (nth bN b a) (nth bN c a))=true then(cN (some false)) else(aoP (b,c,aQ (a+1)))) else none) else none) else none) else none) else(some (.aS ()))
def A4(a0:Zi)(a1:Zi):Zm:=
 if(!decide ((List.length a0:Int)=(List.length a1:Int)))=true then(some false) else(aG (U:=Unit) (pt dA (a0,a1,0)) fun _=>some true)
def wg:Nat→Zh×Int×Int×ZD→Option (dN ZD Zc):=aL fun aoP ⟨c,b,a,d⟩=>if(decide (a<b))=true then(if 0≤a then(if a<(List.length c:Int) then(if bM aR (nth aN c a).1 (nth aN c a).1=true then(if List.length d+1≤aF then(if(List.length (aO aR (.slice 64 aN) (nth aN c a).1 d)+List.length [nth aN c a])*64≤aF then(aoP (c,b,aQ (a+1),bK aR (nth aN c a).1 ((aO aR (.slice 64 aN) (nth aN c a).1 d)++[nth aN c a]) (bK aR (nth aN c a).1 (Ty.aH (.slice 64 aN)) d))) else none) else none) else none) else none) else none) else(some (.aS d))
def PJ(a0:Zh):Option Zc:=
 aG (U:=ZD) (wg (Int.toNat (List.length a0:Int)+1) (a0,(List.length a0:Int),0,([]:ZD))) fun v1=>some (some v1)
end Go.Proofs.YtkhfnbfpgcjllaaGreatDoor
