/- part -/
import Derived.Test.YtaghhonjcdokjaaGreatDoorUO
noncomputable section
namespace Go.Proofs.YtaghhonjcdokjaaGreatDoor
open Go.Ax
def f35(a0:cH):Option (Zf×Bool×Int):=
 Option.bind (f17 a0) fun⟨a,b⟩=>if(!decide (a=(0:Int)))=true then(some (([]:Zf),false,a)) else(Option.bind (Dk b) fun y2=>Option.bind (s9 y2) fun y3=>if(decide ((List.length y3:Int)<b.1))=true then(some (([]:Zf),false,0)) else(some (y3,true,0)))
def WT:SS:=⟨23,63,[(2,.val (.slice 8 (.int .i64))),(3,vB),tI 4],[],[]⟩
def c35:aX:=aE G [.tmp 2,.tmp 3,.tmp 4] 35 [.val fW] [] 63 WT [] (.bC (u1 f35))
theorem WU:hS c35:=
 cO (hR [hA 1 0,(4,⟨[],[(2,15,.aP .func)],[⟨[1],[],[(17,31)],[],[]⟩,⟨[2],[],[],[],[]⟩],none,[],[],[]⟩)]) (hq x17 (hq Rc (hq LG hz))) aH Tryz.call35 Tryz.func35
def f59(a0:cH):ZU:=
 Option.bind (f31 a0) fun y1=>if(!decide (y1=(0:Int)))=true then(some y1) else(Option.bind (f35 a0) fun⟨_,b,a⟩=>if(!decide (a=(0:Int)))=true then(some a) else(if(!b)=true then(some (141:Int)) else(some (0:Int))))
def WV:SS:=⟨22,62,[tI 2],[],[]⟩
def c59:aX:=aE G [.tmp 2] 59 [.val fW] [] 62 WV [] (.bC (u1 f59))
theorem x59:hS c59:=
 cO (hR [hA 1 0,hA 4 1]) (hq x31 (hq WU hz)) aH Tryz.call59 Tryz.func59
def qU:Nat→Zf×Int×Zf×Int×Int×Zu→Option (cV (Zf×Int×Zu) (Bool×Zu)):=aM fun ahA ⟨e,f,c,b,a,d⟩=>if(decide (a<b))=true then(if 0≤a then(if a<(List.length c:Int) then(if(bE (.int .i64) .bool (nth (.int .i64) c a) d)=true then(cw (some (false,d))) else(if List.length d+1≤aG then(ahA (e,f,c,b,bB (a+1),bF (.int .i64) (nth (.int .i64) c a) true d)) else none)) else none) else none) else(some (.brk (e,f,d)))
def CI(a0:Zf)(a1:Int)(a2:Zu):Option (Bool×Zu):=
 aI (U:=Zf×Int×Zu) (qU (Int.toNat (List.length a0:Int)+1) (a0,a1,a0,(List.length a0:Int),0,a2)) fun⟨a,b,c⟩=>some (decide ((List.length a:Int)=b),c)
def WW:SS:=⟨25,65,[(1,.val (.slice 8 (.int .i64))),tI 2],[(0,.map (.int .i64) .bool)],[]⟩
def WZ:SS:=⟨25,65,[(0,.mp 0),(1,.val (.slice 8 (.int .i64))),tI 2,(9,.val (.slice 8 (.int .i64))),tI 10,tI 11],[(0,.map (.int .i64) .bool)],[]⟩
def W0:SS:=⟨25,65,[(6,vB)],[(0,.map (.int .i64) .bool)],[]⟩
def Qz:aX:=aE G [.tmp 6] 60 [.mp 0,.val (.slice 8 (.int .i64)),vI] [(0,.map (.int .i64) .bool)] 65 W0 [0] (.bC (u3 CI))
theorem QA:hS Qz:=
 cO ⟨[],[(8,WW)],[],[(2,⟨WZ,fun u2=>Int.toNat u2.2.2.2.1+1⟩)],[],[]⟩ hz aH Tryz.call60 Tryz.func60
def f33(a0:cH):ZU:=
 Option.bind (f59 a0) fun y1=>if(!decide (y1=(0:Int)))=true then(some y1) else(Option.bind (f35 a0) fun⟨c,b,a⟩=>if(!decide (a=(0:Int)))=true then(some a) else(if(!b)=true then(some (141:Int)) else(Option.bind (CI c (List.length a0.2.2.1:Int) ([]:Zu)) fun⟨d,_⟩=>if(!d)=true then(some (141:Int)) else(some (0:Int)))))
def W1:SS:=⟨31,71,[tI 2],[],[]⟩
def c33:aX:=aE G [.tmp 2] 33 [.val fW] [] 71 W1 [] (.bC (u1 f33))
theorem x33:hS c33:=
 cO (hR [hA 1 0,hA 4 1,hE 7 [cB 2 [(0,39)] []]]) (hq x59 (hq WU (hq QA hz))) aH Tryz.call33 Tryz.func33
def f152(a0:cH)(a1:Int)(a2:Int)(a3:Int):Zo:=
 Option.bind (f107 (a0,()) a1 a2) fun⟨a,b⟩=>Option.bind (α:=Bool) (if a=true then(Option.bind (f114 (a0,()) b) fun y2=>if y2=true then(if(decide (b.2.1≤a3))=true then(some (decide (a3≤b.2.2.1))) else(some false)) else(some false)) else(some false)) fun v3=>some v3
def W2:SS:=⟨38,78,[(8,vB)],[],[]⟩
def W3:aX:=aE G [.tmp 8] 152 [.val fW,vI,vI,vI] [] 78 W2 [] (.bC (u4 f152))
theorem TF:hS W3:=
 cO (hR [hA 2 0,hD 3 8 [cA 1]]) (hq Jw (hq QX hz)) aH Tryz.call152 Tryz.func152
def nF:Nat→Int×ZA×ZA×Int×Int×cH→Option (cV ZA Bool):=aM fun rec5 ⟨e,f,c,b,a,d⟩=>if(decide (a<b))=true then(if 0≤a then(if a<(List.length c:Int) then(Option.bind (f152 d e a (nth bO c a).2.1.2.1) fun y6=>if(!y6)=true then(cw (some false)) else(rec5 (e,f,c,b,bB (a+1),d))) else none) else none) else(some (.brk f))
def f119(a0:cH)(a1:Int):Zo:=
 aI (U:=Int×cH) (Option.bind (α:=Bool) (if(decide (a1<(0:Int)))=true then(some true) else(some (decide ((List.length a0.2.2.1:Int)≤a1)))) fun v2=>if v2=true then(cw (some false)) else(some (.brk (a1,a0)))) fun⟨a,b⟩=>if 0≤a then(if a<(List.length b.2.2.1:Int) then(aI (U:=ZA) (nF (Int.toNat (List.length (nth aU b.2.2.1 a).2.2.2.2.1:Int)+1) (a,(nth aU b.2.2.1 a).2.2.2.2.1,(nth aU b.2.2.1 a).2.2.2.2.1,(List.length (nth aU b.2.2.1 a).2.2.2.2.1:Int),0,b)) fun v3=>Option.bind (α:=Bool) (if(decide ((0:Int)<(List.length v3:Int)))=true then(if(0:Int)<(List.length v3:Int) then(some (decide ((nth bO v3 (0:Int)).2.1.1=(3:Int)))) else none) else(some false)) fun v7=>some v7) else none) else none
def W4:SS:=⟨50,90,[tI 1,tP 2 18],[(18,bV fW)],[]⟩
def W5:SS:=⟨50,90,[(5,.val (.slice 120 bO))],[],[]⟩
def W6:SS:=⟨50,90,[tI 1,tP 2 18,(5,.val (.slice 120 bO)),(23,.val (.slice 120 bO)),tI 24,tI 25],[(18,bV fW)],[]⟩
def W7:SS:=⟨50,90,[(4,vB)],[],[]⟩
def W8:aX:=aE G [.tmp 4] 119 [.val fW,vI] [] 90 W7 [] (.bC (u2 f119))
theorem W9:hS W8:=
 cO ⟨[hD 1 16 [],hA 7 0,hD 10 4 []],[(3,W4),(10,W5)],[],[(5,⟨W6,fun u4=>Int.toNat u4.2.2.2.1+1⟩)],[],[]⟩ (hq TF hz) aH Tryz.call119 Tryz.func119
def f120(a0:dF)(a1:dF)(a2:Int):Zo:=
 if(!decide (a0.1=a1.1))=true then(some false) else(aI (U:=Int×dF×dF) (Option.bind (α:=Bool) (if(decide (a0.1=(1:Int)))=true then(some true) else(some (decide (a0.1=(2:Int))))) fun v2=>if v2=true then(Option.bind (α:=Bool) (if(decide (a1.2.1=(bB (a0.2.1+a2))))=true then(if(decide (a1.2.2.1=(bB (a0.2.2.1+a2))))=true then(some (decide (a0.2.2.2.2.1=a1.2.2.2.2.1))) else(some false)) else(some false)) fun v3=>cw (some v3)) else(some (.brk (a2,a0,a1)))) fun⟨a,b,c⟩=>Option.bind (α:=Bool) (if(decide (a=(0:Int)))=true then(if(decide (b.2.1=c.2.1))=true then(if(decide (b.2.2.1=c.2.2.1))=true then(some (decide ((List.length b.2.2.2.2.2.1:Int)=(List.length c.2.2.2.2.2.1:Int)))) else(some false)) else(some false)) else(some false)) fun v4=>some v4)
def Xa:SS:=⟨68,108,[tI 2,tP 3 19,tP 4 20],[(19,bV fp),(20,bV fp)],[]⟩
def Xb:SS:=⟨68,108,[(6,vB)],[],[]⟩
def Xc:aX:=aE G [.tmp 6] 120 [.val fp,.val fp,vI] [] 108 Xb [] (.bC (u3 f120))
theorem Xd:hS Xc:=
 cO ⟨[hD 3 19 [],hD 4 6 [],hD 5 6 []],[(5,Xa)],[],[],[],[]⟩ hz aH Tryz.call120 Tryz.func120
def uL:Nat→ZA×ZA×Zq×Int×Int×List Bool×List Bool→Zx:=aM fun rec9 ⟨l,m,k,j,i,n,o⟩=>if(decide (i<j))=true then(if 0≤i then(if i<(List.length k:Int) then(aI (U:=ZA×ZA×Zq×Int×Int×gv×List Bool×List Bool) (Option.bind (α:=Bool) (if(decide ((nth aS k i).2.2.2.1<(1:Int)))=true then(some true) else(if(decide ((List.length l:Int)≤(nth aS k i).2.2.2.1))=true then(some true) else(if(decide ((nth aS k i).2.2.1<(1:Int)))=true then(some true) else(if(decide ((List.length m:Int)≤(nth aS k i).2.2.1))=true then(some true) else(if 0≤(nth aS k i).2.2.2.1 then(if(nth aS k i).2.2.2.1<(List.length n:Int) then(if(nth .bool n (nth aS k i).2.2.2.1)=true then(some true) else(if 0≤(nth aS k i).2.2.1 then(if(nth aS k i).2.2.1<(List.length o:Int) then(some (nth .bool o (nth aS k i).2.2.1)) else none) else none)) else none) else none))))) fun v11=>if v11=true then(cw (cw (some false))) else(some (.brk (l,m,k,j,i,nth aS k i,n,o)))) fun⟨d,e,f,g,h,a,b,c⟩=>if 0≤a.2.2.2.1 then(if a.2.2.2.1<(List.length b:Int) then(if 0≤a.2.2.1 then(if a.2.2.1<(List.length c:Int) then(if 0≤a.2.2.2.1 then(if a.2.2.2.1<(List.length d:Int) then(if 0≤a.2.2.1 then(if a.2.2.1<(List.length e:Int) then(Option.bind (f120 (nth bO d a.2.2.2.1).2.1 (nth bO e a.2.2.1).2.1 a.2.2.2.2.1) fun y12=>if(!y12)=true then(cw (some false)) else(rec9 (d,e,f,g,bB (h+1),List.set b (Int.toNat a.2.2.2.1) true,List.set c (Int.toNat a.2.2.1) true))) else none) else none) else none) else none) else none) else none) else none) else none) else none) else none) else(some (.brk ()))
def f61(a0:cH)(a1:qR):Zo:=
 aI (U:=cH×qR) (Option.bind (α:=Bool) (if(decide (a1.2.2.1=a1.2.2.2.1))=true then(some true) else(Option.bind (f119 a0 a1.2.2.1) fun y2=>if(!y2)=true then(some true) else(Option.bind (f119 a0 a1.2.2.2.1) fun y3=>some (!y3)))) fun v4=>if v4=true then(cw (some false)) else(some (.brk (a0,a1)))) fun⟨b,a⟩=>if 0≤a.2.2.1 then(if a.2.2.1<(List.length b.2.2.1:Int) then(if 0≤a.2.2.2.1 then(if a.2.2.2.1<(List.length b.2.2.1:Int) then(aI (U:=ZA×ZA×qR) (Option.bind (α:=Bool) (if(!decide ((List.length a.2.2.2.2.1:Int)=(bB ((List.length (nth aU b.2.2.1 a.2.2.1).2.2.2.2.1:Int) -(1:Int)))))=true then(some true) else(some (!decide ((List.length a.2.2.2.2.1:Int)=(bB ((List.length (nth aU b.2.2.1 a.2.2.2.1).2.2.2.2.1:Int) -(1:Int))))))) fun v6=>if v6=true then(cw (some false)) else(some (.brk ((nth aU b.2.2.1 a.2.2.1).2.2.2.2.1,(nth aU b.2.2.1 a.2.2.2.1).2.2.2.2.1,a)))) fun⟨c,d,e⟩=>if 0≤(List.length c:Int) then(if(List.length c:Int)≤(List.length c:Int) then(if(List.length c:Int)*(1:Int)≤(aG:Int) then(if 0≤(List.length d:Int) then(if(List.length d:Int)≤(List.length d:Int) then(if(List.length d:Int)*(1:Int)≤(aG:Int) then(aI (U:=Unit) (uL (Int.toNat (List.length e.2.2.2.2.1:Int)+1) (c,d,e.2.2.2.2.1,(List.length e.2.2.2.2.1:Int),0,List.replicate (Int.toNat (List.length c:Int)) false,List.replicate (Int.toNat (List.length d:Int)) false)) fun _=>some true) else none) else none) else none) else none) else none) else none) else none) else none) else none) else none
def Xe:SS:=⟨134,174,[tP 2 18,tP 3 19],[(18,bV fW),(19,bV fA)],[]⟩
def Xf:SS:=⟨134,174,[tP 3 19,(5,.val (.slice 120 bO)),(6,.val (.slice 120 bO))],[(19,bV fA)],[]⟩
def Xg:SS:=⟨134,174,[(5,.val (.slice 120 bO)),(6,.val (.slice 120 bO)),(7,.own 78),(8,.own 81),tP 10 26,(67,.val (.slice 56 aS)),tI 68,tI 69],[(26,bV aS),(78,.row 4 1 .bool),(81,.row 4 1 .bool)],[]⟩
def Xh:SS:=⟨134,174,[],[],[]⟩
def Xi:SS:=⟨134,174,[(5,.val (.slice 120 bO)),(6,.val (.slice 120 bO)),(7,.own 78),(8,.own 81),(67,.val (.slice 56 aS)),tI 68,tI 69],[(78,.row 4 1 .bool),(81,.row 4 1 .bool)],[]⟩
def Xj:SS:=⟨134,174,[(4,vB)],[],[]⟩
def c61:aX:=aE G [.tmp 4] 61 [.val fW,.val fA] [] 174 Xj [] (.bC (u2 f61))
theorem x61:hS c61:=
 cO ⟨[hD 1 29 [cA 0,cA 0],hD 4 59 [],hD 10 108 [],hA 13 1],[(3,Xe),(6,Xf),(12,Xg),(16,Xh)],[],[(8,⟨Xi,fun u8=>Int.toNat u8.2.2.2.1+1⟩)],[],[]⟩ (hq W9 (hq Xd hz)) aH Tryz.call61 Tryz.func61
def CJ:Nat→ZC×Int×Int×cH→Option (cV Unit Int):=aM fun ahA ⟨c,b,a,d⟩=>if(decide (a<b))=true then(if 0≤a then(if a<(List.length c:Int) then(Option.bind (f61 d (nth fA c a)) fun y4=>if(!y4)=true then(cw (some (150:Int))) else(ahA (c,b,bB (a+1),d))) else none) else none) else(some (.brk ()))
def f34(a0:cH):ZU:=
 aI (U:=Unit) (CJ (Int.toNat (List.length a0.2.2.2.2.1:Int)+1) (a0.2.2.2.2.1,(List.length a0.2.2.2.2.1:Int),0,a0)) fun _=>some (0:Int)
def Xk:SS:=⟨17,57,[],[],[]⟩
def Xl:SS:=⟨17,57,[tP 1 17,(6,.val (.slice 72 fA)),tI 7,tI 8],[(17,bV fW)],[]⟩
def Xm:SS:=⟨17,57,[tI 2],[],[]⟩
def c34:aX:=aE G [.tmp 2] 34 [.val fW] [] 57 Xm [] (.bC (u1 f34))
theorem x34:hS c34:=
 cO ⟨[hA 4 0],[(7,Xk)],[],[(2,⟨Xl,fun u2=>Int.toNat u2.2.1+1⟩)],[],[]⟩ (hq x61 hz) aH Tryz.call34 Tryz.func34
def f15(a0:cH):Option (Int×B3):=
 aI (U:=cH) (Option.bind (f30 a0) fun y2=>if(!decide (y2=(0:Int)))=true then(cw (some (y2,(([]:Zn),([]:Zq),([]:Zj),([]:Zi),([]:ZC),([]:Zv),()),([]:Zf),()))) else(Option.bind (f31 a0) fun y3=>if(!decide (y3=(0:Int)))=true then(cw (some (y3,(([]:Zn),([]:Zq),([]:Zj),([]:Zi),([]:ZC),([]:Zv),()),([]:Zf),()))) else(Option.bind (f32 a0) fun y4=>if(!decide (y4=(0:Int)))=true then(cw (some (y4,(([]:Zn),([]:Zq),([]:Zj),([]:Zi),([]:ZC),([]:Zv),()),([]:Zf),()))) else(Option.bind (f33 a0) fun y5=>if(!decide (y5=(0:Int)))=true then(cw (some (y5,(([]:Zn),([]:Zq),([]:Zj),([]:Zi),([]:ZC),([]:Zv),()),([]:Zf),()))) else(Option.bind (f34 a0) fun y6=>if(!decide (y6=(0:Int)))=true then(cw (some (y6,(([]:Zn),([]:Zq),([]:Zj),([]:Zi),([]:ZC),([]:Zv),()),([]:Zf),()))) else(some (.brk a0))))))) fun v1=>Option.bind (f35 v1) fun⟨b,_,a⟩=>if(!decide (a=(0:Int)))=true then(some (a,(([]:Zn),([]:Zq),([]:Zj),([]:Zi),([]:ZC),([]:Zv),()),([]:Zf),())) else(some (0,v1,b,()))
def Xn:SS:=⟨36,76,[tP 1 17,tP 2 18],[(17,bV fW),(18,.var B2 (.cons (.cons .aF (.cons .aF (.cons .aF (.cons .aF (.cons .aF (.cons .aF .nil)))))) (.cons .aF .nil)))],[]⟩
def Xo:SS:=⟨36,76,[tP 2 18,tI 3],[(18,bV B2)],[]⟩
def c15:aX:=aE G [.cell 2 32,.tmp 3] 15 [.val fW] [] 76 Xo [] (.bC (u1 f15))
theorem x15:hS c15:=
 cO ⟨[hE 5 [⟨[4,3,2,1,0],[],[],[],[]⟩],hA 9 5],[(9,Xn)],[],[],[(3,12)],[]⟩ (hq x30 (hq x31 (hq x32 (hq x33 (hq x34 (hq WU hz)))))) aH Tryz.call15 Tryz.func15
def f25(a0:Zd):Option (Int×Int×B3):=
 Option.bind (f43 a0) fun⟨b,_,a⟩=>if(!decide (a=(0:Int)))=true then none else(Option.bind (f44 b) fun⟨d,c⟩=>if(!decide (c=(0:Int)))=true then none else(Option.bind (f15 d) fun⟨e,f⟩=>some (0,e,f)))
def Xp:SS:=⟨33,73,[tP 2 18,tI 3,tI 4],[(18,bV B2)],[]⟩
def c25:aX:=aE G [.cell 2 32,.tmp 3,.tmp 4] 25 [.val .str] [] 73 Xp [] (.bC (u1 f25))
theorem x25:hS c25:=
 cO (hR [hA 1 0,(3,⟨[],[],[],none,[(0,9999)],[],[]⟩),hA 4 1,(6,⟨[],[],[],none,[(0,9999)],[],[]⟩),hA 7 2]) (hq x43 (hq x44 (hq x15 hz))) aH Tryz.call25 Tryz.func25
def f26(a0:Int)(a1:Int)(a2:Int)(a3:Int)(a4:Int):Option nV:=
 some ((0,a0,bB ((bB ((16:Int)*a1))+a2),()),a3,(0,1024,()),5,a4,())
def Xq:SS:=⟨21,61,[tP 10 26],[(26,bV dq)],[]⟩
def c26:aX:=aE G [.cell 10 45] 26 [vI,vI,vI,vI,vI] [] 61 Xq [] (.bC (u5 f26))
theorem x26:hS c26:=
 cO (hR []) hz aH Tryz.call26 Tryz.func26
def f11:Option (Bool×cD):=
 Option.bind (f25 [105,115,115,117,101,114,32,114,59,32,115,99,104,101,109,97,32,98,105,114,116,104,32,98,121,32,114,32,118,101,114,115,105,111,110,32,49,32,115,101,108,102,32,48,32,48,32,48,32,48,32,123,32,102,105,101,108,100,32,100,97,121,32,58,32,100,97,116,101,32,48,32,48,32,48,32,48,59,32,102,105,101,108,100,32,109,111,116,104,101,114,32,58,32,112,101,114,115,111,110,32,48,32,48,32,48,32,48,59,32,125,32,115,99,104,101,109,97,32,99,104,105,108,100,32,98,121,32,114,32,118,101,114,115,105,111,110,32,49,32,115,101,108,102,32,48,32,48,32,48,32,48,32,123,32,102,105,101,108,100,32,111,102,32,58,32,112,101,114,115,111,110,32,48,32,48,32,48,32,48,59,32,102,105,101,108,100,32,115,105,110,99,101,32,58,32,100,97,116,101,32,48,32,48,32,48,32,48,59,32,125,32,100,101,114,105,118,101,32,99,104,105,108,100,32,123,32,102,114,111,109,32,98,32,98,105,114,116,104,59,32,102,114,111,109,32,109,32,98,105,114,116,104,32,111,102,32,98,46,109,111,116,104,101,114,59,32,119,104,101,114,101,32,109,46,100,97,121,32,60,32,98,46,100,97,121,59,32,119,104,101,114,101,32,98,46,100,97,121,32,60,61,32,57,48,59,32,115,101,116,32,111,102,32,61,32,98,46,109,111,116,104,101,114,59,32,115,101,116,32,115,105,110,99,101,32,61,32,98,46,100,97,121,59,32,125]) fun⟨_,a,b⟩=>Option.bind (f26 (3:Int) (0:Int) (1:Int) (50:Int) (0:Int)) fun y2=>Option.bind (f26 (3:Int) (0:Int) (2:Int) (7:Int) (1:Int)) fun y3=>Option.bind (f26 (7:Int) (1:Int) (1:Int) (20:Int) (2:Int)) fun y4=>Option.bind (f26 (7:Int) (1:Int) (2:Int) (9:Int) (3:Int)) fun y5=>some (decide (a=(0:Int)),b,[y2,y3,y4,y5],())
def Xr:SS:=⟨19,59,[tP 0 16,(1,vB)],[(16,bV iY)],[]⟩
def c11:aX:=aE G [.cell 0 35,.tmp 1] 11 [] [] 59 Xr [] (.bC (fun _=>f11))
theorem x11:hS c11:=
 cO (hR [hA 1 0,hE 2 [cA 1,cA 1,cA 1,cA 1]]) (hq x25 (hq x26 hz)) aH Tryz.call11 Tryz.func11
def f16(a0:B3)(a1:B3):Zo:=
 Option.bind (α:=Bool) (Option.bind (f36 a0.1 a1.1) fun y1=>if y1=true then(Option.bind (f37 a0.2.1 a1.2.1) fun y2=>some y2) else(some false)) fun v3=>some v3
def Xs:SS:=⟨17,57,[(4,vB)],[],[]⟩
def c16:aX:=aE G [.tmp 4] 16 [.val B2,.val B2] [] 57 Xs [] (.bC (u2 f16))
theorem x16:hS c16:=
 cO (hR [hD 1 4 [cA 0,cA 1]]) (hq x36 (hq x37 hz)) aH Tryz.call16 Tryz.func16
def f6(a0:B3):ZU:=
 Option.bind (f15 a0.1) fun⟨a,b⟩=>Option.bind (α:=Bool) (if(!decide (a=(0:Int)))=true then(some true) else(Option.bind (f16 b a0) fun y2=>some (!y2))) fun v3=>if v3=true then(some (160:Int)) else(some (0:Int))
def Xt:SS:=⟨18,58,[tI 2],[],[]⟩
def c6:aX:=aE G [.tmp 2] 6 [.val B2] [] 58 Xt [] (.bC (u1 f6))
theorem x6:hS c6:=
 cO (hR [hA 1 0,hD 2 17 [cA 1]]) (hq x15 (hq x16 hz)) aH Tryz.call6 Tryz.func6
def IZ(a0:Int)(a1:Int)(a2:Tt):Option (Tt×Zs):=
 some (a2,a2.1,a2.2.1,a0,a1,a2.2.2.2.2.1,a2.2.2.2.2.2.1,a2.2.2.2.2.2.2.2.2.2,([]:Zk),([]:Zh),([]:Zl))
def Xu:SS:=⟨20,60,[tP 6 23],[(0,bV mi),(23,fB 32 33 36),(32,.map bS fC),(33,.map bJ .bool),(36,.row 64 40 bJ)],[]⟩
def QB:aX:=aE G [.tmp 6] 45 [pP 0,vI,vI] [(0,bV mi)] 60 Xu [0,23,32,33,36] (.bC (u3 IZ))
theorem QC:hS QB:=
 cO (hR [(3,⟨[.uj 23 [.cF 8] 36 64 40 bJ],[],[],none,[],[],[]⟩)]) hz aH Tryz.call45 Tryz.func45
def xh:Nat→Int×Int×Zy×Int×Int×cD×ZS→Option (cV (Int×Int×cD×ZS) Zs):=aM fun ahA ⟨e,f,c,b,a,g,d,h,i,j,k,l⟩=>if(decide (a<b))=true then(if 0≤a then(if a<(List.length c:Int) then(if aY bS (nth dq c a).1 (nth dq c a).1=true then(if List.length d+1≤aG then(if(List.length (bE bS (.slice 64 dq) (nth dq c a).1 d)+List.length [nth dq c a])*64≤aG then(ahA (e,f,c,b,bB (a+1),g,bF bS (nth dq c a).1 ((bE bS (.slice 64 dq) (nth dq c a).1 d)++[nth dq c a]) (bF bS (nth dq c a).1 (Ty.aC (.slice 64 dq)) d),h,i,j,k,l)) else none) else none) else none) else none) else none) else(some (.brk (e,f,g,d,h,i,j,k,l)))
def xi:Nat→Int×Int×Zi×Int×Int×ZS→Option (cV (Int×Int×ZS) Zs):=aM fun rec6 ⟨e,f,c,b,a,g,d,h,i,j,k⟩=>if(decide (a<b))=true then(if 0≤a then(if a<(List.length c:Int) then(if List.length d+1≤aG then(rec6 (e,f,c,b,bB (a+1),g,bF (.int .i64) (nth bQ c a).2.1 true d,h,i,j,k)) else none) else none) else none) else(some (.brk (e,f,g,d,h,i,j,k)))
def qV(a0:cD)(a1:Int)(a2:Int)(a3:Bool):Option Zs:=
 aI (U:=Int×Int×cD×ZS) (xh (Int.toNat (List.length a0.2.1:Int)+1) (a1,a2,a0.2.1,(List.length a0.2.1:Int),0,a0,([]:List (j7×Zy)),([]:Zu),a0,0,0,a3)) fun⟨b,c,a,d,e,f,g,h,i⟩=>aI (U:=Int×Int×ZS) (xi (Int.toNat (List.length a.1.1.2.2.2.1:Int)+1) (b,c,a.1.1.2.2.2.1,(List.length a.1.1.2.2.2.1:Int),0,d,e,f,g,h,i)) fun⟨j,k,m,q,l,n,o,p⟩=>Option.bind (IZ j k (l,some m,n,o,p,some q,(none:Option Zk),(none:Option Zh),([]:Zl),())) fun⟨_,r,s,t,u,v,w,x,y,z,aa⟩=>some (r,s,t,u,v,w,x,y,z,aa)
def Xv:SS:=⟨60,100,[tI 1,tI 2,tP 4 20,tP 9 35],[(20,bV iY),(31,.pmap bS (.slice 64 dq) 45),(33,.map (.int .i64) .bool),(35,.var mi (.cons (.val iY) (.cons (.mp 31) (.cons vI (.cons vI (.cons vB (.cons (.mp 33) (.cons .ep (.cons .ep (.cons .aF .nil))))))))))],[]⟩
def Xw:SS:=⟨60,100,[tI 1,tI 2,tP 9 35],[(31,.map bS (.slice 64 dq)),(33,.map (.int .i64) .bool),(35,.var mi (.cons (.val iY) (.cons (.mp 31) (.cons vI (.cons vI (.cons vB (.cons (.mp 33) (.cons .ep (.cons .ep (.cons .aF .nil))))))))))],[]⟩
def Xx:SS:=⟨60,100,[tI 1,tI 2,tP 4 20,tP 9 35,(21,.val (.slice 64 dq)),tI 22,tI 23],[(20,bV iY),(31,.pmap bS (.slice 64 dq) 45),(33,.map (.int .i64) .bool),(35,.var mi (.cons (.val iY) (.cons (.mp 31) (.cons vI (.cons vI (.cons vB (.cons (.mp 33) (.cons .ep (.cons .ep (.cons .aF .nil))))))))))],[]⟩
def Xy:SS:=⟨60,100,[tI 1,tI 2,tP 9 35,(43,.val (.slice 96 bQ)),tI 44,tI 45],[(31,.map bS (.slice 64 dq)),(33,.map (.int .i64) .bool),(35,.var mi (.cons (.val iY) (.cons (.mp 31) (.cons vI (.cons vI (.cons vB (.cons (.mp 33) (.cons .ep (.cons .ep (.cons .aF .nil))))))))))],[]⟩
def Xz:SS:=⟨60,100,[tP 8 75],[(75,fB 76 77 78),(76,.map bS fC),(77,.map bJ .bool),(78,.row 64 40 bJ)],[]⟩
def QD:aX:=aE G [.tmp 8] 27 [.val iY,vI,vI,vB] [] 100 Xz [75,76,77,78] (.bC (u4 qV))
theorem I0:hS QD:=
 cO ⟨[(2,⟨[.KM 31 45],[],[],none,[],[],[]⟩),(5,⟨[],[],[],none,[],[.map 2 31 76 (.c 11 [.cF 0]),.fE 31],[.yi 31,.mz 31]⟩),(7,⟨[.H4 31],[],[],none,[],[],[]⟩),(12,⟨[.freeze 31 (.map bS (.slice 64 dq)),.freeze 33 (.map (.int .i64) .bool),.Cb 35],[],[⟨[0],[(0,35)],[(23,75),(32,76),(33,77),(36,78)],[],[]⟩],none,[],[],[]⟩)],[(7,Xv),(12,Xw)],[],[(3,⟨Xx,fun u2=>Int.toNat u2.2.2.2.1+1⟩),(8,⟨Xy,fun u5=>Int.toNat u5.2.2.2.1+1⟩)],[],[]⟩ (hq QC hz) aH Tryz.call27 Tryz.func27
def uM(a0:Int)(a1:Int)(a2:cD)(a3:Zg)(a4:Int)(a5:Int)(a6:Bool)(a7:Ze)(a8:Unit)(a9:Zk)(a10:Zh)(a11:Zl):Option (Bool×Zs):=
 Option.bind (α:=Bool) (if a6=true then(if(bE (.int .i64) .bool a0 (bK a7))=true then(if(decide ((0:Int)≤a1))=true then(if(decide (a1<(4096:Int)))=true then(if(decide ((0:Int)≤a4))=true then(some (decide (a4<(1024:Int)))) else(some false)) else(some false)) else(some false)) else(some false)) else(some false)) fun v1=>some (v1,a2,a3,a4,a5,a6,a7,a8,a9,a10,a11)
def XA:SS:=⟨41,81,[(6,vB)],[(0,fB 1 2 3),(1,.map bS fC),(2,.map bJ .bool),(3,.row 64 40 bJ)],[]⟩
def QE:aX:=aE G [.tmp 6] 41 [pP 0,vI,vI] [(0,fB 1 2 3),(1,.map bS fC),(2,.map bJ .bool),(3,.row 64 40 bJ)] 81 XA [0,1,2,3] (.bC (Qd uM))
theorem I1:hS QE:=
 cO (hR [hD 1 6 []]) hz aH Tryz.call41 Tryz.func41
def CK:SS:=⟨75,115,[tP 4 20],[(0,fB 1 2 93),(1,.map bS fC),(2,.map bJ .bool),(20,bV fC),(93,.row 64 40 bJ)],[]⟩
def uN(q:Zc):aX:=aE G [.cell 4 88] 42 [pP 0,.val bS] [(0,fB 1 2 3),(1,.map bS fC),(2,.map bJ .bool),(3,.row 64 40 bJ)] 115 CK [0,1,2,93] (.bC q)
def LU:SS:=⟨77,117,[(5,vB)],[(0,.var (.slice 48 fj) (.own 99)),(1,bV bQ),(2,.var (.aP .ptr) (pP 6)),(3,bI),(4,.var (.aP .func) (.func 220 .nil (.cons (pP 0) (.cons (pP 1) (.cons (pP 2) (.cons (pP 3) (.cons (pP 4) .nil))))))),(6,fB 7 8 100),(7,.map bS fC),(8,.map bJ .bool),(99,.row 49 48 fj),(100,.row 64 40 bJ)],[]⟩
def pM(q:Zb):aX:=aE G [.tmp 5] 220 [pP 0,pP 1,pP 2,pP 3,pP 4] [(0,.var (.slice 48 fj) (.own 5)),(1,bV bQ),(2,.var (.aP .ptr) (pP 6)),(3,bI),(4,.var (.aP .func) (.func 220 .nil (.cons (pP 0) (.cons (pP 1) (.cons (pP 2) (.cons (pP 3) (.cons (pP 4) .nil))))))),(5,.row 49 48 fj),(6,fB 7 8 9),(7,.map bS fC),(8,.map bJ .bool),(9,.row 64 40 bJ)] 117 LU [0,1,2,3,4,6,7,8,99,100] (.bC q)
def th(_q0_:Zc)(q1_:Zb)(a0:iA)(a1:Int)(a2:cD)(a3:Zg)(a4:Int)(a5:Int)(a6:Bool)(a7:Ze)(a8:Unit)(a9:Zk)(a10:Zh)(a11:Zl):Option (Bool×Zr):=
 Option.bind (q1_ (a0,a1,([]:ZG),a2,a3,a4,a5,a6,a7,a8,a9,a10,a11,())) fun⟨a,_,_,b,c,d,e,f,g,h,i,j,l,k⟩=>if(!a)=true then(some (false,b,c,d,e,f,g,h,i,j,([]:ZG),k)) else(some (true,b,c,d,e,f,g,h,i,j,l,k))
def XB:SS:=⟨14,54,[tP 6 22,(7,vB)],[(0,fB 1 2 31),(1,.map bS fC),(2,.map bJ .bool),(22,.var (.slice 48 fj) (.val (.slice 48 fj))),(31,.row 64 40 bJ)],[]⟩
def LV(q0_:Zc)(q1_:Zb):aX:=aE G [.cell 6 58,.tmp 7] 145 [pP 0,.val bQ,vI] [(0,fB 1 2 3),(1,.map bS fC),(2,.map bJ .bool),(3,.row 64 40 bJ)] 54 XB [0,1,2,31] (.bC (Qd (th q0_ q1_)))
theorem LW(q0_:Zc)(q1_:Zb)(_h0_:hS (uN q0_))(h1_:hS (pM q1_)):hS (LV q0_ q1_):=
 cO (hR [(3,⟨[.uj 22 [] 30 49 48 fj],[],[⟨[0],[(0,22),(1,20),(2,19),(3,21),(4,24),(5,30),(6,0),(7,1),(8,2),(9,3)],[(99,27),(100,31)],[],[]⟩],none,[],[],[]⟩)]) (hq h1_ hz) aH Tryz.call145 Tryz.func145
def f222(a0:gv)(a1:ZG):ZU:=
 if(decide (a0.2.2.1=(-1:Int)))=true then(some a0.2.2.2.2.1) else(if 0≤a0.2.2.1 then(if a0.2.2.1<(List.length a1:Int) then(if 0≤a0.2.2.2.1 then(if a0.2.2.2.1<(List.length (nth fj a1 a0.2.2.1).2.2.2.1:Int) then(some (nth (.int .i64) (nth fj a1 a0.2.2.1).2.2.2.1 a0.2.2.2.1)) else none) else none) else none) else none)
def XC:SS:=⟨20,60,[tI 4],[],[]⟩
def XD:aX:=aE G [.tmp 4] 222 [.val aS,.val (.slice 48 fj)] [] 60 XC [] (.bC (u2 f222))
theorem QF:hS XD:=
 cO (hR []) hz aH Tryz.call222 Tryz.func222
def jL:Nat→Int×ZG×ZB×Int×Vv→Option (cV Vv (cD×Zg×Int×Int×Bool×Ze×Unit×Zk×Zh×Zl×yx)):=aM fun ahA ⟨f,d,c,b,a,g,h,i,j,k,l,m,n,o,p,q,r,s,t,e⟩=>if(decide (a<b))=true then(if 0≤a then(if a<(List.length c:Int) then(Option.bind (f222 (nth aZ c a).2.2.1 d) fun y4=>if 0≤(nth aZ c a).2.1 then(if(nth aZ c a).2.1<(List.length e:Int) then(ahA (f,d,c,b,bB (a+1),g,h,i,j,k,l,m,n,o,p,q,r,s,t,List.set e (Int.toNat (nth aZ c a).2.1) y4)) else none) else none) else none) else none) else(some (.brk (f,g,h,i,j,k,l,m,n,o,p,q,r,s,t,e)))
def nG(a0:iA)(a1:Int)(a2:ZG)(a3:cD)(a4:Zg)(a5:Int)(a6:Int)(a7:Bool)(a8:Ze)(a9:Unit)(a10:Zk)(a11:Zh)(a12:Zl):Option (cD×Zg×Int×Int×Bool×Ze×Unit×Zk×Zh×Zl×yx):=
 if 0≤a0.2.1 then(if a0.2.1<(List.length a3.1.1.2.2.1:Int) then(if 0≤(List.length (nth aU a3.1.1.2.2.1 a0.2.1).2.2.2.2.1:Int) then(if(List.length (nth aU a3.1.1.2.2.1 a0.2.1).2.2.2.2.1:Int)≤(List.length (nth aU a3.1.1.2.2.1 a0.2.1).2.2.2.2.1:Int) then(if(List.length (nth aU a3.1.1.2.2.1 a0.2.1).2.2.2.2.1:Int)*(8:Int)≤(aG:Int) then(if(0:Int)<(List.length (List.replicate (Int.toNat (List.length (nth aU a3.1.1.2.2.1 a0.2.1).2.2.2.2.1:Int)) (0:Int)):Int) then(aI (U:=Vv) (jL (Int.toNat (List.length a0.2.2.2.2.1:Int)+1) (a1,a2,a0.2.2.2.2.1,(List.length a0.2.2.2.2.1:Int),0,a3,a4,a5,a6,a7,a8,a9,a10,a11,a12,a0,0,0,0,List.set (List.replicate (Int.toNat (List.length (nth aU a3.1.1.2.2.1 a0.2.1).2.2.2.2.1:Int)) (0:Int)) (Int.toNat (0:Int)) a1)) fun⟨l,a,b,c,d,e,f,g,h,i,j,k,_,_,_,m⟩=>some (a,b,c,d,e,f,g,h,i,j,k.2.1,l,0,m,())) else none) else none) else none) else none) else none) else none
def XE:SS:=⟨50,90,[tI 2,tP 5 21,tP 8 24,(9,.own 41)],[(0,fB 1 2 3),(1,.map bS fC),(2,.map bJ .bool),(3,.row 64 40 bJ),(21,bV bQ),(24,.var fj (.cons vI (.cons vI (.cons vI (.cons .aF .nil))))),(41,.row 3 8 (.int .i64))],[]⟩
def XF:SS:=⟨50,90,[tI 2,(3,.val (.slice 48 fj)),tP 5 21,tP 8 24,(9,.own 41),(30,.val (.slice 80 aZ)),tI 31,tI 32],[(0,fB 1 2 3),(1,.map bS fC),(2,.map bJ .bool),(3,.row 64 40 bJ),(21,bV bQ),(24,.var fj (.cons vI (.cons vI (.cons vI (.cons .aF .nil))))),(41,.row 3 8 (.int .i64))],[]⟩
def XG:SS:=⟨50,90,[tP 8 24],[(0,fB 1 2 3),(1,.map bS fC),(2,.map bJ .bool),(3,.row 64 40 bJ),(24,bV fj)],[]⟩
def LX:aX:=aE G [.cell 8 49] 146 [pP 0,.val bQ,vI,.val (.slice 48 fj)] [(0,fB 1 2 3),(1,.map bS fC),(2,.map bJ .bool),(3,.row 64 40 bJ)] 90 XG [0,1,2,3] (.bC (KN nG))
theorem LY:hS LX:=
 cO ⟨[hA 6 0],[(8,XE)],[],[(4,⟨XF,fun u2=>Int.toNat u2.2.2.2.1+1⟩)],[],[]⟩ (hq QF hz) aH Tryz.call146 Tryz.func146
def xj(q0_:Zc)(q1_:Zb):Nat→Zi×Int×Int×cD×Zg×Int×Int×Bool×Ze×Unit×Zk×Zh×j7×Int×Int×Int×Int×Bool×Zl→Option (cV (cD×Zg×Int×Int×Bool×Ze×Unit×Zk×Zh×Int×Int×Int×Int×Bool×Zl) ZW):=aM fun ahA ⟨z,y,x,ab,ac,ad,ae,af,ag,ah,ai,aj,aa,ak,al,am,an,ao,ap⟩=>if(decide (x<y))=true then(if 0≤x then(if x<(List.length z:Int) then(if(!decide ((nth bQ z x).2.1=aa.1))=true then(ahA (z,y,bB (x+1),ab,ac,ad,ae,af,ag,ah,ai,aj,aa,ak,al,am,an,ao,ap)) else(Option.bind (th q0_ q1_ (nth bQ z x) aa.2.1 ab ac ad ae af ag ah ai aj ap) fun⟨a,c,d,e,f,g,h,i,j,k,b,l⟩=>if a=true then(Option.bind (nG (nth bQ z x) aa.2.1 b c d e f g h i j k l) fun⟨m,n,o,p,q,r,s,t,u,w,v⟩=>cw (some (m,n,o,p,q,r,s,t,u,(v,x,b,true,()),w))) else(ahA (z,y,bB (x+1),c,d,e,f,g,h,i,j,k,aa,ak,al,am,an,ao,l)))) else none) else none) else(some (.brk (ab,ac,ad,ae,af,ag,ah,ai,aj,ak,al,am,an,ao,ap)))
def uO(q0_:Zc)(q1_:Zb)(a0:j7)(a1:cD)(a2:Zg)(a3:Int)(a4:Int)(a5:Bool)(a6:Ze)(a7:Unit)(a8:Zk)(a9:Zh)(a10:Zl):Option ZW:=
 aI (U:=cD×Zg×Int×Int×Bool×Ze×Unit×Zk×Zh×Int×Int×Int×Int×Bool×Zl) (xj q0_ q1_ (Int.toNat (List.length a1.1.1.2.2.2.1:Int)+1) (a1.1.1.2.2.2.1,(List.length a1.1.1.2.2.2.1:Int),0,a1,a2,a3,a4,a5,a6,a7,a8,a9,a0,0,0,0,0,false,a10)) fun⟨a,b,c,d,e,f,g,h,i,j,k,l,m,n,o⟩=>some (a,b,c,d,e,f,g,h,i,((j,k,l,([]:Zf),()),m,([]:ZG),n,()),o)
def XH:SS:=⟨47,87,[tP 4 20],[(0,fB 1 2 64),(1,.map bS fC),(2,.map bJ .bool),(20,.var fC (.cons (.cons vI (.cons vI (.cons vI (.cons .aF .nil)))) (.cons vI (.cons .aF (.cons vB .nil))))),(64,.row 64 40 bJ)],[]⟩
def XI:SS:=⟨47,87,[tP 0 0,tP 3 19,tP 4 20,(15,.val (.slice 96 bQ)),tI 16,tI 17],[(0,fB 1 2 63),(1,.map bS fC),(2,.map bJ .bool),(19,bV bS),(20,.var fC (.cons (.cons vI (.cons vI (.cons vI (.cons .aF .nil)))) (.cons vI (.cons .aF (.cons vB .nil))))),(63,.row 64 40 bJ)],[]⟩
def XJ:SS:=⟨47,87,[tP 4 20],[(0,fB 1 2 65),(1,.map bS fC),(2,.map bJ .bool),(20,bV fC),(65,.row 64 40 bJ)],[]⟩
def QG(q0_:Zc)(q1_:Zb):aX:=aE G [.cell 4 88] 76 [pP 0,.val bS] [(0,fB 1 2 3),(1,.map bS fC),(2,.map bJ .bool),(3,.row 64 40 bJ)] 87 XJ [0,1,2,65] (.bC (ET (uO q0_ q1_)))
theorem QH(q0_:Zc)(q1_:Zb)(h0_:hS (uN q0_))(h1_:hS (pM q1_)):hS (QG q0_ q1_):=
 cO ⟨[hE 5 [cB 0 [(0,0),(1,1),(2,2),(3,63)] [(31,48)]],hE 7 [cB 1 [(0,0),(1,1),(2,2),(3,48)] []]],[(9,XH)],[],[(2,⟨XI,fun u2=>Int.toNat u2.2.1+1⟩)],[],[]⟩ (hq (LW q0_ q1_ h0_ h1_) (hq LY hz)) aH Tryz.call76 Tryz.func76
def kN:Nat→Int×Int×cD×Zg×Int×Int×Bool×Ze×Unit×Zk×Zh×Zl×j7×B3×Zy→Option (cV (cD×Zg×Int×Int×Bool×Ze×Unit×Zk×Zh×Zl×B3×Zy) (cD×Zg×Int×Int×Bool×Ze×Unit×Zk×Zh×Zl×cD)):=aM fun ahZ ⟨b,a,f,e,g,h,i,j,k,l,m,n,d,o,c⟩=>if(decide (a<b))=true then(if(List.length c+List.length (bE bS (.slice 64 dq) (d.1,d.2.1,bB ((bB ((16:Int)*d.2.2.1))+a),()) (bK e)))*64≤aG then(ahZ (b,bB (a+1),f,e,g,h,i,j,k,l,m,n,d,o,c++(bE bS (.slice 64 dq) (d.1,d.2.1,bB ((bB ((16:Int)*d.2.2.1))+a),()) (bK e)))) else none) else(some (.brk (f,e,g,h,i,j,k,l,m,n,o,c)))
def gN(a0:j7)(a1:cD)(a2:Zg)(a3:Int)(a4:Int)(a5:Bool)(a6:Ze)(a7:Unit)(a8:Zk)(a9:Zh)(a10:Zl):Option (cD×Zg×Int×Int×Bool×Ze×Unit×Zk×Zh×Zl×cD):=
 aI (U:=cD×Zg×Int×Int×Bool×Ze×Unit×Zk×Zh×Zl×B3×Zy) (Option.bind (α:=Bool) (if(decide ((0:Int)≤a0.1))=true then(some (decide (a0.1<(List.length a1.1.1.2.2.1:Int)))) else(some false)) fun v2=>if v2=true then(if 0≤a0.1 then(if a0.1<(List.length a1.1.1.2.2.1:Int) then(kN (Int.toNat (List.length (nth aU a1.1.1.2.2.1 a0.1).2.2.2.2.1:Int)+1) ((List.length (nth aU a1.1.1.2.2.1 a0.1).2.2.2.2.1:Int),0,a1,a2,a3,a4,a5,a6,a7,a8,a9,a10,a0,a1.1,([]:Zy))) else none) else none) else(some (.brk (a1,a2,a3,a4,a5,a6,a7,a8,a9,a10,a1.1,([]:Zy))))) fun⟨a,b,c,d,e,f,g,h,i,j,k,l⟩=>some (a,b,c,d,e,f,g,h,i,j,k,l,())
def XK:SS:=⟨62,102,[tP 4 20,tP 5 21],[(0,fB 1 2 3),(1,.map bS fC),(2,.map bJ .bool),(3,.row 64 40 bJ),(20,.var iY (.cons (.cons (.cons .aF (.cons .aF (.cons .aF (.cons .aF (.cons .aF (.cons .aF .nil)))))) (.cons .aF .nil)) (.cons .aF .nil))),(21,.var iY (.cons (.val B2) (.cons (.own 79) .nil))),(79,.row 45 64 dq)],[]⟩
def XL:SS:=⟨62,102,[tP 0 0,tP 3 19,tP 4 20,tP 5 21,tI 36,tI 37],[(0,fB 1 2 3),(1,.map bS fC),(2,.map bJ .bool),(3,.row 64 40 bJ),(19,bV bS),(20,.var iY (.cons (.cons (.cons .aF (.cons .aF (.cons .aF (.cons .aF (.cons .aF (.cons .aF .nil)))))) (.cons .aF .nil)) (.cons .aF .nil))),(21,.var iY (.cons (.val B2) (.cons (.own 78) .nil))),(78,.row 45 64 dq)],[]⟩
def XM:SS:=⟨62,102,[tP 4 20],[(0,fB 1 2 3),(1,.map bS fC),(2,.map bJ .bool),(3,.row 64 40 bJ),(20,bV iY)],[]⟩
def QI:aX:=aE G [.cell 4 35] 78 [pP 0,.val bS] [(0,fB 1 2 3),(1,.map bS fC),(2,.map bJ .bool),(3,.row 64 40 bJ)] 102 XM [0,1,2,3] (.bC (ET gN))
theorem QJ:hS QI:=
 cO ⟨[hD 2 26 []],[(9,XK)],[],[(4,⟨XL,fun u3=>Int.toNat u3.1+1⟩)],[],[]⟩ hz aH Tryz.call78 Tryz.func78
def yz:Nat→Int×Zi×Int×Int×Zu→Option (cV (Int×Zu) Bool):=aM fun rec5 ⟨e,c,b,a,d⟩=>if(decide (a<b))=true then(if 0≤a then(if a<(List.length c:Int) then(if List.length d+1≤aG then(rec5 (e,c,b,bB (a+1),bF (.int .i64) (nth bQ c a).2.1 true d)) else none) else none) else none) else(some (.brk (e,d)))
def f147(a0:cH)(a1:Int):Zo:=
 aI (U:=Int×cH) (Option.bind (α:=Bool) (if(decide (a1<(0:Int)))=true then(some true) else(if(decide ((List.length a0.2.2.1:Int)≤a1))=true then(some true) else(if 0≤a1 then(if a1<(List.length a0.2.2.1:Int) then(some (decide ((List.length (nth aU a0.2.2.1 a1).2.2.2.2.1:Int)<(2:Int)))) else none) else none))) fun v2=>if v2=true then(cw (some false)) else(some (.brk (a1,a0)))) fun⟨b,a⟩=>aI (U:=Int×Zu) (yz (Int.toNat (List.length a.2.2.2.1:Int)+1) (b,a.2.2.2.1,(List.length a.2.2.2.1:Int),0,([]:Zu))) fun⟨c,d⟩=>some (!(bE (.int .i64) .bool c d))
def XN:SS:=⟨43,83,[tI 1,tP 2 18],[(18,bV fW)],[]⟩
def XO:SS:=⟨43,83,[tI 1,(5,.mp 43)],[(43,.map (.int .i64) .bool)],[]⟩
def XP:SS:=⟨43,83,[tI 1,(5,.mp 43),(29,.val (.slice 96 bQ)),tI 30,tI 31],[(43,.map (.int .i64) .bool)],[]⟩
def XQ:SS:=⟨43,83,[(4,vB)],[],[]⟩
def XR:aX:=aE G [.tmp 4] 147 [.val fW,vI] [] 83 XQ [] (.bC (u2 f147))
theorem XS:hS XR:=
 cO ⟨[hD 1 26 []],[(3,XN),(9,XO)],[],[(5,⟨XP,fun u4=>Int.toNat u4.2.2.1+1⟩)],[],[]⟩ hz aH Tryz.call147 Tryz.func147
def f148(a0:Int)(a1:Int):Zo:=
 Option.bind (α:=Bool) (if(decide ((0:Int)≤a0))=true then(if(decide (a0<(4096:Int)))=true then(if(decide ((0:Int)≤a1))=true then(some (decide (a1<(4:Int)))) else(some false)) else(some false)) else(some false)) fun v1=>some v1
def XT:SS:=⟨19,59,[(4,vB)],[],[]⟩
def XU:aX:=aE G [.tmp 4] 148 [vI,vI] [] 59 XT [] (.bC (u2 f148))
theorem XV:hS XU:=
 cO (hR [hD 1 4 []]) hz aH Tryz.call148 Tryz.func148
def f150(a0:Int)(a1:Int)(a2:Int)(a3:Int):Option j7:=
 some (a0,a1,bB ((bB ((16:Int)*a2))+a3),())
def XW:SS:=⟨16,56,[tP 8 24],[(24,bV bS)],[]⟩
def XX:aX:=aE G [.cell 8 41] 150 [vI,vI,vI,vI] [] 56 XW [] (.bC (u4 f150))
theorem XY:hS XX:=
 cO (hR []) hz aH Tryz.call150 Tryz.func150
def yA(a0:Zy)(a1:j7)(a2:Int):Option (Zy×j7×Int):=
 some (a0,a1,a2)
def XZ:SS:=⟨8,48,[(6,.func 247 .nil (.cons (pP 19) (.cons (pP 20) (.cons (pP 21) .nil))))],[(19,.var (.slice 64 dq) (.val (.slice 64 dq))),(20,bV bS),(21,bI)],[]⟩
def LZ:aX:=aE G [.tmp 6] 223 [.val (.slice 64 dq),.val bS,vI] [] 48 XZ [19,20,21] (.bC (u3 yA))
theorem L0:hS LZ:=
 cO (hR []) hz aH Tryz.call223 Tryz.func223
def f219(a0:Int):Zo:=
 some (!decide (a0=a0))
def X0:SS:=⟨6,46,[(2,vB)],[],[]⟩
def X1:aX:=aE G [.tmp 2] 219 [vI] [] 46 X0 [] (.bC (u1 f219))
theorem X2:hS X1:=
 cO (hR []) hz aH Tryz.call219 Tryz.func219
def f249(a0:Int)(a1:Int):ZU:=
 Option.bind (f219 a0) fun y1=>Option.bind (f219 a1) fun y2=>if y1=true then(if y2=true then(some (0:Int)) else(some (-1:Int))) else(if y2=true then(some (1:Int)) else(if(decide (a0<a1))=true then(some (-1:Int)) else(if(decide (a1<a0))=true then(some (1:Int)) else(some (0:Int)))))
def X3:SS:=⟨20,60,[tI 4],[],[]⟩
def X4:aX:=aE G [.tmp 4] 249 [vI,vI] [] 60 X3 [] (.bC (u2 f249))
theorem X6:hS X4:=
 cO (hR [hA 1 0,hA 2 0]) (hq X2 hz) aH Tryz.call249 Tryz.func249
def yB:Nat→Int×Zf×ZD→Option (cV Int Int):=aM fun ahA ⟨d,c,b,a⟩=>if(decide (a<b))=true then(if 0≤a then(if a<(List.length c:Int) then(if(!decide ((nth (.int .i64) c a)=d))=true then(cw (some (nth (.int .i64) c a))) else(ahA (d,c,b,bB (a+1)))) else none) else none) else(some (.brk d))
def f248(a0:Zf):ZU:=
 aI (U:=Int) (yB (Int.toNat (List.length a0:Int)+1) (0,a0,(List.length a0:Int),0)) fun v1=>some v1
def X7:SS:=⟨18,58,[tI 3],[],[]⟩
def X8:SS:=⟨18,58,[tI 3,(6,.val (.slice 8 (.int .i64))),tI 7,tI 8],[],[]⟩
def X9:SS:=⟨18,58,[tI 2],[],[]⟩
def Ya:aX:=aE G [.tmp 2] 248 [.val (.slice 8 (.int .i64))] [] 58 X9 [] (.bC (u1 f248))
theorem Yb:hS Ya:=
 cO ⟨[],[(8,X7)],[],[(3,⟨X8,fun u2=>Int.toNat u2.2.2.1+1⟩)],[],[]⟩ hz aH Tryz.call248 Tryz.func248
def f224(a0:nV)(a1:nV):ZU:=
 Option.bind (f249 a0.2.2.2.1 a1.2.2.2.1) fun y1=>Option.bind (f249 a0.2.2.2.2.1 a1.2.2.2.2.1) fun y2=>Option.bind (f248 [y1,y2]) fun y3=>some y3
def Yd:SS:=⟨17,57,[tI 4],[],[]⟩
def Ye:aX:=aE G [.tmp 4] 224 [.val dq,.val dq] [] 57 Yd [] (.bC (u2 f224))
theorem Yf:hS Ye:=
 cO (hR [hE 1 [cA 0,cA 0,cA 1]]) (hq X6 (hq Yb hz)) aH Tryz.call224 Tryz.func224
def oO(l_:Nat)(Y_:nV×YC×Nat×Nat×Int×Nat×nV×Nat×Bool×Unit→Vu):Nat→Nat×Zy×Int×Int×ZQ→Option (cV ZQ ZQ):=aM fun ahA ⟨o,l,k,j,p,q,r,s,t,u,v,w,x,m,n⟩=>if(decide (j<k))=true then(if 0≤j then(if j<(List.length l:Int) then(if(aY bS (nth dq l j).1 m)=true then(if(decide ((nth dq l j).2.2.2.1≤n))=true then(if o=l_ then(Option.bind (Y_ (nth dq l j,p,q,r,s,t,u,v,w,())) fun⟨a,b,c,d,e,f,g,h,i⟩=>if(!a)=true then(cw (some (b,c,d,e,f,g,h,i,x,m,n))) else(ahA (o,l,k,bB (j+1),b,c,d,e,f,g,h,i,x,m,n))) else none) else(ahA (o,l,k,bB (j+1),p,q,r,s,t,u,v,w,x,m,n))) else(ahA (o,l,k,bB (j+1),p,q,r,s,t,u,v,w,x,m,n))) else none) else none) else(some (.brk (p,q,r,s,t,u,v,w,x,m,n)))
def yC(l_:Nat)(Y_:nV×YC×Nat×Nat×Int×Nat×nV×Nat×Bool×Unit→Vu)(a0:Nat)(a1:YC)(a2:Nat)(a3:Nat)(a4:Int)(a5:Nat)(a6:nV)(a7:Nat)(a8:Bool)(a9:Zy)(a10:j7)(a11:Int):Option ZQ:=
 aI (U:=ZQ) (oO l_ Y_ (Int.toNat (List.length a9:Int)+1) (a0,a9,(List.length a9:Int),0,a1,a2,a3,a4,a5,a6,a7,a8,a9,a10,a11)) fun⟨a,b,c,d,e,f,g,h,i,j,k⟩=>some (a,b,c,d,e,f,g,h,i,j,k)
def TH:SS:=⟨30,70,[],[(0,.lp),(1,.tv (.int .i64) vI),(2,.tv dq (.val dq)),(3,.tv .bool vB),(4,.var (.slice 64 dq) (.val (.slice 64 dq))),(5,bV bS),(6,bI)],[]⟩
def Yg:SS:=⟨30,70,[(0,.B0),tP 2 5,tP 3 6,(7,.val (.slice 64 dq)),tI 8,tI 9],[(0,.lp),(1,.tv (.int .i64) vI),(2,.tv dq (.val dq)),(3,.tv .bool vB),(4,.var (.slice 64 dq) (.val (.slice 64 dq))),(5,bV bS),(6,bI)],[]⟩
def yD:IC:=⟨[.val dq],[(0,.lp),(1,.tv (.int .i64) vI),(2,.tv dq (.val dq)),(3,.tv .bool vB)],90,0,[(1,.tv (.int .i64) vI),(2,.tv dq (.val dq)),(3,.tv .bool vB)],fun l f=>aE G [] 247 [.B0,pP 4,pP 5,pP 6] [(0,.lp),(1,.tv (.int .i64) vI),(2,.tv dq (.val dq)),(3,.tv .bool vB),(4,.var (.slice 64 dq) (.val (.slice 64 dq))),(5,bV bS),(6,bI)] 70 TH [0,1,2,3,4,5,6] (.bC (Qd (yC l f)))⟩
theorem L1:yD.holds Tryz.prog gl:=fun B hB l f hY=>
 aX.of tied (H:=⟨[hE 3 [cB 0 [(0,0),(1,1),(2,2),(3,3)] []]],[],[(0,TH)],[(1,⟨Yg,fun u2=>Int.toNat u2.2.2.1+1⟩)],[],[]⟩) (hold (l:=[IC.Y yD l f]) ⟨hY,trivial⟩) aH rfl Tryz.call247 Tryz.func247 rfl rfl rfl rfl (fun _=>by kernel_rfl) (fun _=>by kernel_rfl)
def tj(y_:YC)(b5_0:nV)(yt:YC)(yj:Nat)(g1:Nat)(c5_0:Int)(g2:Nat)(c5_1:nV)(g3:Nat)(c5_2:Bool):Vu:=
 Pn yt y_ (if yj=0 then(if g1=y_.gs 1 then(if g2=y_.gs 2 then(if g3=y_.gs 3 then(Option.bind (α:=Nat×Nat×Int×Nat×nV×Nat×Bool) (Option.bind (α:=Bool) (if(decide (b5_0.2.2.1.1≤c5_0))=true then(if(decide (c5_0<b5_0.2.2.1.2.1))=true then(if(!c5_2)=true then(some true) else(Option.bind (f224 c5_1 b5_0) fun y3=>some (decide (y3≤(0:Int))))) else(some false)) else(some false)) fun v4=>if v4=true then(some (0,y_.gs 1,c5_0,y_.gs 2,b5_0,y_.gs 3,true)) else(some (0,y_.gs 1,c5_0,y_.gs 2,c5_1,y_.gs 3,c5_2))) fun r_=>if r_.2.1=y_.gs 1 then(if r_.2.2.2.1=y_.gs 2 then(if r_.2.2.2.2.2.1=y_.gs 3 then(some (Nat.beq r_.1 0,y_,r_.1,r_.2.1,r_.2.2.1,r_.2.2.2.1,r_.2.2.2.2.1,r_.2.2.2.2.2.1,r_.2.2.2.2.2.2)) else none) else none) else none) else none) else none) else none) else none)
def f151(a0:Zy)(a1:j7)(a2:Int)(a3:Int):Option (Int×Bool):=
 aI (U:=nV×Bool) (Option.bind (yA a0 a1 a3) fun⟨a,b,c⟩=>yq fun y5=>Option.bind (yC y5.l (fun d=>tj y5 d.1 d.2.1 d.2.2.1 d.2.2.2.1 d.2.2.2.2.1 d.2.2.2.2.2.1 d.2.2.2.2.2.2.1 d.2.2.2.2.2.2.2.1 d.2.2.2.2.2.2.2.2.1) y5.l y5 0 (y5.gs 1) a2 (y5.gs 2) ((0,0,0,()),0,(0,0,()),0,0,()) (y5.gs 3) false a b c) fun⟨e,f,_,_,_,g,_,h,_,_,_⟩=>Pn e y5 (if f=0 then(some (.brk (g,h))) else none)) fun⟨j,i⟩=>Option.bind (α:=Bool) (if(!i)=true then(some true) else(some (decide (j.2.1<(0:Int))))) fun v7=>if v7=true then(some (0,false)) else(some (j.2.1,true))
def Yh:SS:=⟨50,90,[tP 10 26,tP 11 27],[(26,bV dq),(27,.var .bool vB),(68,.wu)],[.mp 68]⟩
def Yi:SS:=⟨50,90,[tP 6 22,tI 8,(9,vB),tP 10 26,tP 11 27,(16,.func 247 .nil (.cons (pP 32) (.cons (pP 66) (.cons (pP 67) .nil))))],[(22,bI),(26,bV dq),(27,.var .bool vB),(32,.var (.slice 64 dq) (.val (.slice 64 dq))),(66,bV bS),(67,bI)],[]⟩
def Yj:SS:=⟨50,90,[],[(1,bI),(2,bV dq),(3,.var .bool vB)],[]⟩
def TI:SS:=⟨50,90,[tI 8,(9,vB)],[],[]⟩
def Yk:aX:=aE G [.tmp 8,.tmp 9] 151 [.val (.slice 64 dq),.val bS,vI,vI] [] 90 TI [] (.bC (u4 f151))
theorem Yl:hS Yk:=
 cO ⟨[hE 3 [cB 0 [] [(19,32),(20,66),(21,67)]],hD 5 39 [cA 1],hD 7 47 []],[(7,Yh)],[],[],[],[(5,⟨0,68,69,[(1,.int .i64),(2,dq),(3,.bool)],[(22,1),(26,2),(27,3)],[],[(0,69),(1,22),(2,26),(3,27),(4,32),(5,66),(6,67)],[],Yi,Yj⟩)]⟩ (hq L0 (hq Yf hz)) (ES (L:=[yD]) ⟨L1,trivial⟩) Tryz.call151 Tryz.func151
end Go.Proofs.YtaghhonjcdokjaaGreatDoor
