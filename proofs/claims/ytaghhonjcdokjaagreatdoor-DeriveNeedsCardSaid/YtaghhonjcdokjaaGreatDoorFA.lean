/- part -/
import Derived.Test.YtaghhonjcdokjaaGreatDoorUL
import Derived.Test.YtaghhonjcdokjaaGreatDoorY1
noncomputable section
namespace Go.Proofs.YtaghhonjcdokjaaGreatDoor
open Go.Ax
def f23(a0:cD)(a1:Int)(a2:Int)(a3:Int)(a4:Int):Option (Zl×IJ):=
 Option.bind (f6 a0.1) fun y1=>Option.bind (qV a0 a3 a4 (decide (y1=(0:Int)))) fun⟨a,b,c,d,e,f,g,h,i,j⟩=>Option.bind (uM a1 a2 a b c d e f g h i j) fun⟨k,l,m,n,o,p,q,r,s,t,u⟩=>if(!k)=true then(some (([]:Zl),(0,0,0,([]:Zf),()),0,([]:ZG),false,())) else(Option.bind (iy (a1,a2,0,()) l m n o p q r s t u) fun⟨_,_,_,_,_,_,_,_,_,w,v⟩=>some (v,w))
def V0:SS:=⟨37,77,[tP 10 26,(11,.val (.slice 40 bJ))],[(26,bV fC)],[]⟩
def c23:aX:=aE G [.cell 10 88,.tmp 11] 23 [.val iY,vI,vI,vI,vI] [] 77 V0 [] (.bC (u5 f23))
theorem x23:hS c23:=
 cO (hR [hE 1 [cA 0,cB 1 [] [(75,36),(76,53),(77,54),(78,55)]],hE 2 [cB 2 [(0,36),(1,53),(2,54),(3,55)] []],hE 4 [cB 3 [(0,36),(1,53),(2,54),(3,55)] [(93,47)]]]) (hq x6 (hq I0 (hq I1 (hq BH hz)))) aH Tryz.call23 Tryz.func23
def f8(a0:cD)(a1:Int)(a2:Int)(a3:Int)(a4:Int):Option (Zl×Bool×yx):=
 Option.bind (f23 a0 a1 a2 a3 a4) fun⟨a,b⟩=>some (a,b.2.2.2.1,b.1)
def V1:SS:=⟨28,68,[tP 10 26,(11,.val (.slice 40 bJ)),(12,vB)],[(26,bV fj)],[]⟩
def c8:aX:=aE G [.cell 10 49,.tmp 11,.tmp 12] 8 [.val iY,vI,vI,vI,vI] [] 68 V1 [] (.bC (u5 f8))
theorem x8:hS c8:=
 cO (hR [hA 1 0]) (hq x23 hz) aH Tryz.call8 Tryz.func8
def f12(a0:cD)(a1:Int)(a2:Int)(a3:Int)(a4:Int):Option (Int×ZG×Bool):=
 Option.bind (f23 a0 a1 a2 a3 a4) fun⟨_,a⟩=>some (a.2.1,a.2.2.1,a.2.2.2.1)
def V2:SS:=⟨30,70,[tI 10,(11,.val (.slice 48 fj)),(12,vB)],[],[]⟩
def c12:aX:=aE G [.tmp 10,.tmp 11,.tmp 12] 12 [.val iY,vI,vI,vI,vI] [] 70 V2 [] (.bC (u5 f12))
theorem Vi:hS c12:=
 cO (hR [hA 1 0]) (hq x23 hz) aH Tryz.call12 Tryz.func12
def IK(a0:Int)(a1:Int)(a2:Int)(a3:cD)(a4:Zg)(a5:Int)(a6:Int)(a7:Bool)(a8:Ze)(a9:Unit)(a10:Zk)(a11:Zh)(a12:Zl):Option (Bool×cD×Zg×Int×Int×Bool×Ze×Unit×Zk×Zh×yx×Zl):=
 aI (U:=Int×Int×Int×cD×Zg×Int×Int×Bool×Ze×Unit×Zk×Zh×Zl×Int×ZD) (if(bE (.int .i64) .bool a0 (bK a8))=true then(if(!decide (a2=(0:Int)))=true then none else(Option.bind (uM a0 a1 a3 a4 a5 a6 a7 a8 a9 a10 a11 a12) fun⟨a,b,c,d,e,f,g,h,i,j,k⟩=>if(!a)=true then none else(some (.brk (a0,a1,a2,b,c,d,e,f,g,h,i,j,k,0,0,0))))) else(some (.brk (a0,a1,a2,a3,a4,a5,a6,a7,a8,a9,a10,a11,a12,0,0,0)))) fun⟨l,m,n,o,p,q,r,s,t,u,v,w,x,_,_,_⟩=>Option.bind (iy (l,m,n,()) o p q r s t u v w x) fun⟨z,aa,ab,ac,ad,ae,af,ag,ah,y,ai⟩=>some (y.2.2.2.1,z,aa,ab,ac,ad,ae,af,ag,ah,y.1,ai)
def V3:SS:=⟨39,79,[tP 0 0,tI 1,tI 2,tI 3,tP 8 24],[(0,fB 1 2 3),(1,.map bS fC),(2,.map bJ .bool),(3,.row 64 40 bJ),(24,.var fj (.cons vI (.cons vI (.cons vI (.cons .aF .nil)))))],[]⟩
def V4:SS:=⟨39,79,[tP 8 24,(9,vB)],[(0,fB 1 2 50),(1,.map bS fC),(2,.map bJ .bool),(24,bV fj),(50,.row 64 40 bJ)],[]⟩
def Qh:aX:=aE G [.cell 8 49,.tmp 9] 46 [pP 0,vI,vI,vI] [(0,fB 1 2 3),(1,.map bS fC),(2,.map bJ .bool),(3,.row 64 40 bJ)] 79 V4 [0,1,2,50] (.bC (KN IK))
theorem Qi:hS Qh:=
 cO ⟨[hE 1 [cB 0 [(0,0),(1,1),(2,2),(3,3)] []],(2,⟨[],[],[],none,[(0,9999)],[],[]⟩),hE 3 [cB 1 [(0,0),(1,1),(2,2),(3,3)] [(93,50)]]],[(3,V3)],[],[],[],[]⟩ (hq I1 (hq BH hz)) aH Tryz.call46 Tryz.func46
def GU:Nat→Int×Int×Int×Int×Int×Int×Zr→Option (cV (Int×Int×Int×Zr) (cV Zr (ZG×Zs))):=aM fun rec7 ⟨p,o,ab,ac,n,m,q,r,s,t,u,v,w,x,y,aa,z⟩=>if(decide (m<n))=true then(Option.bind (IK o p m q r s t u v w x y z) fun⟨a,c,d,e,f,g,h,i,j,k,b,l⟩=>if a=true then(if(List.length aa+List.length [b])*48≤aG then(rec7 (p,o,ab,ac,n,bB (m+1),c,d,e,f,g,h,i,j,k,aa++[b],l)) else none) else(rec7 (p,o,ab,ac,n,bB (m+1),c,d,e,f,g,h,i,j,k,aa,l))) else(some (.brk (p,ab,ac,q,r,s,t,u,v,w,x,y,aa,z)))
def GV:Nat→Int×Int×Int×Zr→Option (cV Zr (ZG×Zs)):=aM fun ahA ⟨ah,af,ae,ai,aj,ak,al,am,ag,an,ao,ap,aq,ar⟩=>if(decide (ae<af))=true then(aI (U:=Int×Int×Int×Zr) (aI (U:=Int×Int×Int×Int×Int×Zr) (if(bE (.int .i64) .bool ae (bK ag))=true then(some (.brk (ah,ae,1,af,ae,ai,aj,ak,al,am,ag,an,ao,ap,aq,ar))) else(some (.brk (ah,ae,4,af,ae,ai,aj,ak,al,am,ag,an,ao,ap,aq,ar)))) fun⟨b,c,a,d,e,f,g,h,i,j,k,l,m,n,o,p⟩=>GU (Int.toNat a+1) (b,c,d,e,a,0,f,g,h,i,j,k,l,m,n,o,p)) fun⟨q,r,s,t,u,v,w,x,y,z,aa,ab,ac,ad⟩=>ahA (q,r,bB (s+1),t,u,v,w,x,y,z,aa,ab,ac,ad)) else(some (.brk (ai,aj,ak,al,am,ag,an,ao,ap,aq,ar)))
def IL(a0:Int)(a1:cD)(a2:Zg)(a3:Int)(a4:Int)(a5:Bool)(a6:Ze)(a7:Unit)(a8:Zk)(a9:Zh)(a10:Zl):Option (ZG×Zs):=
 aI (U:=Zr) (GV (Int.toNat (List.length a1.1.1.2.2.1:Int)+1) (a0,(List.length a1.1.1.2.2.1:Int),0,a1,a2,a3,a4,a5,a6,a7,a8,a9,([]:ZG),a10)) fun⟨b,c,d,e,f,g,h,i,j,a,k⟩=>some (a,b,c,d,e,f,g,h,i,j,k)
def V5:SS:=⟨47,87,[tP 0 0,tI 1,(4,.own 67),tI 5,tI 6,tI 17,tI 18],[(0,fB 1 2 68),(1,.map bS fC),(2,.map bJ .bool),(67,.row 49 48 fj),(68,.row 64 40 bJ)],[]⟩
def V6:SS:=⟨47,87,[tP 0 0,tI 1,(4,.own 65),tI 17,tI 18],[(0,fB 1 2 66),(1,.map bS fC),(2,.map bJ .bool),(65,.row 49 48 fj),(66,.row 64 40 bJ)],[]⟩
def V7:SS:=⟨47,87,[(4,.own 69)],[(0,fB 1 2 70),(1,.map bS fC),(2,.map bJ .bool),(69,.row 49 48 fj),(70,.row 64 40 bJ)],[]⟩
def V8:SS:=⟨47,87,[tP 0 0,tI 1,(4,.own 67),tI 17,tI 18],[(0,fB 1 2 68),(1,.map bS fC),(2,.map bJ .bool),(67,.row 49 48 fj),(68,.row 64 40 bJ)],[]⟩
def V9:SS:=⟨47,87,[tP 0 0,tI 1,(4,.own 63),tI 5,tI 17,tI 18,tI 27,tI 28],[(0,fB 1 2 64),(1,.map bS fC),(2,.map bJ .bool),(63,.row 49 48 fj),(64,.row 64 40 bJ)],[]⟩
def Wa:SS:=⟨47,87,[(4,.val (.slice 48 fj))],[(0,fB 1 2 70),(1,.map bS fC),(2,.map bJ .bool),(70,.row 64 40 bJ)],[]⟩
def Qj:aX:=aE G [.tmp 4] 28 [pP 0,vI] [(0,fB 1 2 3),(1,.map bS fC),(2,.map bJ .bool),(3,.row 64 40 bJ)] 87 Wa [0,1,2,70] (.bC (ET IL))
theorem Qk:hS Qj:=
 cO ⟨[hE 10 [cB 0 [(0,0),(1,1),(2,2),(3,64)] [(50,52)]]],[(7,V5),(14,V6),(15,V7)],[],[(2,⟨V8,fun u2=>Int.toNat u2.2.1+1⟩),(8,⟨V9,fun u6=>Int.toNat u6.2.2.2.2.1+1⟩)],[],[]⟩ (hq Qi hz) aH Tryz.call28 Tryz.func28
def f13(a0:cD)(a1:Int)(a2:Int)(a3:Int):Option (ZG×Zl):=
 Option.bind (f6 a0.1) fun y1=>Option.bind (qV a0 a2 a3 (decide (y1=(0:Int)))) fun⟨a,b,c,d,e,f,g,h,i,j⟩=>Option.bind (IL a1 a b c d e f g h i j) fun⟨k,_,_,_,_,_,_,_,_,_,l⟩=>some (k,l)
def Wb:SS:=⟨27,67,[(8,.val (.slice 48 fj)),(9,.val (.slice 40 bJ))],[],[]⟩
def c13:aX:=aE G [.tmp 8,.tmp 9] 13 [.val iY,vI,vI,vI] [] 67 Wb [] (.bC (u4 f13))
theorem x13:hS c13:=
 cO (hR [hE 1 [cA 0,cB 1 [] [(75,34),(76,43),(77,44),(78,45)]],hE 2 [cB 2 [(0,34),(1,43),(2,44),(3,45)] [(70,37)]]]) (hq x6 (hq I0 (hq Qk hz))) aH Tryz.call13 Tryz.func13
def IM:Nat→Zf×Zf×Int→Zx:=aM fun ahA ⟨b,c,a⟩=>if(decide (a<(List.length b:Int)))=true then(if 0≤a then(if a<(List.length b:Int) then(if 0≤a then(if a<(List.length c:Int) then(if(!decide ((nth (.int .i64) b a)=(nth (.int .i64) c a)))=true then(cw (some false)) else(ahA (b,c,bB (a+1)))) else none) else none) else none) else none) else(some (.brk ()))
def f24(a0:Zf)(a1:Zf):Zo:=
 if(!decide ((List.length a0:Int)=(List.length a1:Int)))=true then(some false) else(aI (U:=Unit) (IM gn (a0,a1,0)) fun _=>some true)
def Wc:SS:=⟨26,66,[],[],[]⟩
def We:SS:=⟨26,66,[(0,.val (.slice 8 (.int .i64))),(1,.val (.slice 8 (.int .i64))),tI 5],[],[]⟩
def Wf:SS:=⟨26,66,[(4,vB)],[],[]⟩
def c24:aX:=aE G [.tmp 4] 24 [.val (.slice 8 (.int .i64)),.val (.slice 8 (.int .i64))] [] 66 Wf [] (.bC (u2 f24))
theorem x24:hS c24:=
 cO ⟨[],[(8,Wc)],[],[(4,⟨We,fun _=>gn⟩)],[],[]⟩ hz aH Tryz.call24 Tryz.func24
def f9(a0:yx)(a1:yx):Zo:=
 Option.bind (α:=Bool) (if(decide (a0.1=a1.1))=true then(if(decide (a0.2.1=a1.2.1))=true then(if(decide (a0.2.2.1=a1.2.2.1))=true then(Option.bind (f24 a0.2.2.2.1 a1.2.2.2.1) fun y1=>some y1) else(some false)) else(some false)) else(some false)) fun v2=>some v2
def Wg:SS:=⟨31,71,[(4,vB)],[],[]⟩
def c9:aX:=aE G [.tmp 4] 9 [.val fj,.val fj] [] 71 Wg [] (.bC (u2 f9))
theorem x9:hS c9:=
 cO (hR [hD 1 4 [cA 0]]) (hq x24 hz) aH Tryz.call9 Tryz.func9
def f4:Zo:=
 Option.bind (f11) fun⟨a,b⟩=>if(!a)=true then none else(Option.bind (f8 b (1:Int) (3:Int) (100:Int) (5:Int)) fun⟨d,c,e⟩=>Option.bind (f8 b (1:Int) (3:Int) (100:Int) (4:Int)) fun⟨g,f,_⟩=>Option.bind (f8 b (1:Int) (7:Int) (100:Int) (5:Int)) fun⟨_,h,_⟩=>Option.bind (f12 b (1:Int) (3:Int) (100:Int) (5:Int)) fun⟨j,k,i⟩=>Option.bind (f13 b (3:Int) (100:Int) (5:Int)) fun⟨l,_⟩=>Option.bind (f13 (((([]:Zn),([]:Zq),([]:Zj),([]:Zi),([]:ZC),([]:Zv),()),([]:Zf),()),([]:Zy),()) (0:Int) (0:Int) (0:Int)) fun⟨m,n⟩=>Option.bind (f8 (((([]:Zn),([]:Zq),([]:Zj),([]:Zi),([]:ZC),([]:Zv),()),([]:Zf),()),([]:Zy),()) (0:Int) (0:Int) (0:Int) (0:Int)) fun⟨_,o,_⟩=>Option.bind (f8 b (0:Int) (3:Int) (100:Int) (5:Int)) fun⟨_,p,_⟩=>aI (U:=Zl×Zl×ZG×ZG×yx) (Option.bind (α:=Bool) (if(!c)=true then(some true) else(if f=true then(some true) else(if h=true then(some true) else(if(!i)=true then(some true) else(if o=true then(some true) else(if p=true then(some true) else(if(!decide (j=(0:Int)))=true then(some true) else(if(!decide ((List.length k:Int)=(2:Int)))=true then(some true) else(if(!decide ((List.length l:Int)=(2:Int)))=true then(some true) else(some (!decide ((bB ((List.length m:Int)+(List.length n:Int)))=(0:Int))))))))))))) fun v11=>if v11=true then none else(some (.brk (d,g,k,l,e)))) fun⟨r,s,t,u,q⟩=>Option.bind (f9 q (1,3,0,[(3:Int),7,(50:Int)],())) fun y12=>if y12=true then(if(decide ((List.length r:Int)=(5:Int)))=true then(if(2:Int)<(List.length r:Int) then(if(aY bJ (nth bJ r (2:Int)) ((0,7,1,()),100,101,()))=true then(if(decide ((List.length s:Int)=(4:Int)))=true then(if(1:Int)<(List.length t:Int) then(Option.bind (f9 (nth fj t (1:Int)) (0,7,1,[(7:Int),20,(9:Int)],())) fun y13=>if y13=true then(if(0:Int)<(List.length u:Int) then(if(0:Int)<(List.length t:Int) then(Option.bind (f9 (nth fj u (0:Int)) (nth fj t (0:Int))) fun y14=>if y14=true then(if(1:Int)<(List.length u:Int) then(Option.bind (f9 (nth fj u (1:Int)) q) fun y15=>some y15) else none) else(some false)) else none) else none) else(some false)) else none) else(some false)) else(some false)) else none) else(some false)) else(some false))
def Wh:SS:=⟨163,203,[tP 3 19,(4,.val (.slice 40 bJ)),(7,.val (.slice 40 bJ)),(13,.val (.slice 48 fj)),(15,.val (.slice 48 fj))],[(19,bV fj)],[]⟩
def Wi:SS:=⟨163,203,[(0,vB)],[],[]⟩
def c4:aX:=aE G [.tmp 0] 4 [] [] 203 Wi [] (.bC (fun _=>f4))
theorem x4:hS c4:=
 cO ⟨[hA 1 0,(3,⟨[],[],[],none,[(0,9999)],[],[]⟩),hA 4 1,hA 5 1,hA 6 1,hA 7 2,hA 8 3,hA 9 3,hA 10 1,hA 11 1,hD 12 116 [],(13,⟨[],[],[],none,[(0,9999)],[],[]⟩),hE 14 [cA 4,cA 4,cA 4,cA 4]],[(14,Wh)],[],[],[],[]⟩ (hq x11 (hq x8 (hq Vi (hq x13 (hq x9 hz))))) aH Tryz.call4 Tryz.func4
def IN:Vg:=aM fun ahA ⟨a,b⟩=>if(decide (a<(List.length b.2.2.1:Int)))=true then(Option.bind (α:=Bool) (if 0≤a then(if a<(List.length b.2.2.1:Int) then(if(decide ((6:Int)<(List.length (nth aU b.2.2.1 a).2.2.2.2.1:Int)))=true then(some true) else(if 0≤a then(if a<(List.length b.2.2.1:Int) then(some (decide ((4:Int)<(List.length (nth aU b.2.2.1 a).2.2.2.2.2.1:Int)))) else none) else none)) else none) else none) fun v4=>if v4=true then(cw (some false)) else(ahA (bB (a+1),b))) else(some (.brk b))
def IP:Vg:=aM fun rec7 ⟨a,b⟩=>if(decide (a<(List.length b.2.2.2.1:Int)))=true then(Option.bind (α:=Bool) (if 0≤a then(if a<(List.length b.2.2.2.1:Int) then(if(decide ((4:Int)<(List.length (nth bQ b.2.2.2.1 a).2.2.1:Int)))=true then(some true) else(if 0≤a then(if a<(List.length b.2.2.2.1:Int) then(if(decide ((5:Int)<(List.length (nth bQ b.2.2.2.1 a).2.2.2.1:Int)))=true then(some true) else(if 0≤a then(if a<(List.length b.2.2.2.1:Int) then(some (decide ((6:Int)<(List.length (nth bQ b.2.2.2.1 a).2.2.2.2.1:Int)))) else none) else none)) else none) else none)) else none) else none) fun v8=>if v8=true then(cw (some false)) else(rec7 (bB (a+1),b))) else(some (.brk b))
def EY:Vg:=aM fun rec11 ⟨a,b⟩=>if(decide (a<(List.length b.2.2.2.2.1:Int)))=true then(if 0≤a then(if a<(List.length b.2.2.2.2.1:Int) then(if(decide ((6:Int)<(List.length (nth fA b.2.2.2.2.1 a).2.2.2.2.1:Int)))=true then(cw (some false)) else(rec11 (bB (a+1),b))) else none) else none) else(some (.brk b))
def EZ:Vg:=aM fun rec14 ⟨a,b⟩=>if(decide (a<(List.length b.2.2.2.2.2.1:Int)))=true then(if 0≤a then(if a<(List.length b.2.2.2.2.2.1:Int) then(if(decide ((10:Int)<(List.length (nth dv b.2.2.2.2.2.1 a).2.1:Int)))=true then(cw (some false)) else(rec14 (bB (a+1),b))) else none) else none) else(some (.brk b))
def f47(a0:cH):Zo:=
 aI (U:=cH) (IN gn (0,a0)) fun v1=>aI (U:=cH) (IP gn (0,v1)) fun v5=>aI (U:=cH) (EY gn (0,v5)) fun v9=>aI (U:=cH) (EZ gn (0,v9)) fun v12=>Option.bind (α:=Bool) (if(decide ((List.length v12.1:Int)≤(4:Int)))=true then(if(decide ((List.length v12.2.1:Int)≤(5:Int)))=true then(if(decide ((List.length v12.2.2.1:Int)≤(6:Int)))=true then(if(decide ((List.length v12.2.2.2.1:Int)≤(4:Int)))=true then(if(decide ((List.length v12.2.2.2.2.1:Int)≤(4:Int)))=true then(some (decide ((List.length v12.2.2.2.2.2.1:Int)≤(4:Int)))) else(some false)) else(some false)) else(some false)) else(some false)) else(some false)) fun v15=>some v15
def LB:SS:=⟨131,171,[tP 1 17],[(17,bV fW)],[]⟩
def Wj:SS:=⟨131,171,[tP 1 17,tI 3],[(17,bV fW)],[]⟩
def Wl:SS:=⟨131,171,[tP 1 17,tI 4],[(17,bV fW)],[]⟩
def Wm:SS:=⟨131,171,[tP 1 17,tI 5],[(17,bV fW)],[]⟩
def Wn:SS:=⟨131,171,[tP 1 17,tI 6],[(17,bV fW)],[]⟩
def Wo:SS:=⟨131,171,[(2,vB)],[],[]⟩
def c47:aX:=aE G [.tmp 2] 47 [.val fW] [] 171 Wo [] (.bC (u1 f47))
theorem x47:hS c47:=
 cO ⟨[hD 4 31 [],hD 9 66 [],hD 21 2 []],[(6,LB),(11,LB),(16,LB),(21,LB)],[],[(2,⟨Wj,fun _=>gn⟩),(7,⟨Wl,fun _=>gn⟩),(12,⟨Wm,fun _=>gn⟩),(17,⟨Wn,fun _=>gn⟩)],[],[]⟩ hz aH Tryz.call47 Tryz.func47
def f29(a0:B3):Zo:=
 Option.bind (α:=Bool) (Option.bind (f47 a0.1) fun y1=>if y1=true then(some (decide ((List.length a0.2.1:Int)≤(20:Int)))) else(some false)) fun v2=>some v2
def Wp:SS:=⟨12,52,[(2,vB)],[],[]⟩
def c29:aX:=aE G [.tmp 2] 29 [.val B2] [] 52 Wp [] (.bC (u1 f29))
theorem x29:hS c29:=
 cO (hR [hD 1 2 [cA 0]]) (hq x47 hz) aH Tryz.call29 Tryz.func29
def f14(a0:cD):Zo:=
 Option.bind (α:=Bool) (Option.bind (f29 a0.1) fun y1=>if y1=true then(some (decide ((List.length a0.2.1:Int)≤(60:Int)))) else(some false)) fun v2=>some v2
def Wq:SS:=⟨12,52,[(2,vB)],[],[]⟩
def c14:aX:=aE G [.tmp 2] 14 [.val iY] [] 52 Wq [] (.bC (u1 f14))
theorem x14:hS c14:=
 cO (hR [hD 1 2 [cA 0]]) (hq x29 hz) aH Tryz.call14 Tryz.func14
def Pw:Nat→Int×cD×cH→Option (cV (cD×cH) Bool):=aM fun ahA ⟨a,c,b⟩=>if(decide (a<(List.length b.2.2.2.1:Int)))=true then(if 0≤a then(if a<(List.length b.2.2.2.1:Int) then(if(decide ((3:Int)<(List.length (nth bQ b.2.2.2.1 a).2.2.1:Int)))=true then(cw (some false)) else(ahA (bB (a+1),c,b))) else none) else none) else(some (.brk (c,b)))
def f5(a0:cD):Zo:=
 aI (U:=cD×cH) (Pw gn (0,a0,a0.1.1)) fun⟨a,b⟩=>Option.bind (α:=Bool) (Option.bind (f14 a) fun y4=>if y4=true then(if(decide ((List.length b.2.2.1:Int)≤(6:Int)))=true then(some (decide ((List.length b.2.2.2.1:Int)≤(5:Int)))) else(some false)) else(some false)) fun v5=>some v5
def Wr:SS:=⟨37,77,[tP 1 17,tP 3 19],[(17,bV iY),(19,bV fW)],[]⟩
def Ws:SS:=⟨37,77,[tP 1 17,tP 3 19,tI 4],[(17,bV iY),(19,bV fW)],[]⟩
def Wt:SS:=⟨37,77,[(2,vB)],[],[]⟩
def c5:aX:=aE G [.tmp 2] 5 [.val iY] [] 77 Wt [] (.bC (fun d=>f5 d.1))
theorem x5:hS c5:=
 cO ⟨[hD 7 2 [cA 0]],[(7,Wr)],[],[(3,⟨Ws,fun _=>gn⟩)],[],[]⟩ (hq x14 hz) aH Tryz.call5 Tryz.func5
def f18(a0:jf)(a1:Int):Zo:=
 Option.bind (α:=Bool) (if(decide ((0:Int)≤a1))=true then(some (decide (a1<a0.1))) else(some false)) fun v1=>some v1
def Wu:SS:=⟨13,53,[(4,vB)],[],[]⟩
def c18:aX:=aE G [.tmp 4] 18 [.val xe,vI] [] 53 Wu [] (.bC (u2 f18))
theorem x18:hS c18:=
 cO (hR [hD 1 4 []]) hz aH Tryz.call18 Tryz.func18
def oN:Nat→ZJ×Int×Int×Int×Zf×Int×Int×ZR×Zf×Zf→Option (cV (ZJ×Int×Int×Int×ZR×Zf×Zf) (cV (ZJ×Int×ZR×Zf) (cV (ZJ×Int×ZR×Zf) (cV ZR ZR)))):=aM fun rec10 ⟨f,g,h,i,c,b,a,d,e,j⟩=>if(decide (a<b))=true then(if 0≤a then(if a<(List.length c:Int) then(if(!(de (.int .i64) (nth (.int .i64) c a) d))=true then(if List.length d+1≤aG then(if(List.length e+List.length [nth (.int .i64) c a])*8≤aG then(rec10 (f,g,h,i,c,b,bB (a+1),bF (.int .i64) (nth (.int .i64) c a) g d,e++[nth (.int .i64) c a],j)) else none) else none) else(rec10 (f,g,h,i,c,b,bB (a+1),d,e,j))) else none) else none) else(some (.brk (f,g,h,i,d,e,j)))
def qS:Nat→ZJ×Int×Int×Int×ZR×Zf×Zf→Option (cV (ZJ×Int×ZR×Zf) (cV (ZJ×Int×ZR×Zf) (cV ZR ZR))):=aM fun rec7 ⟨k,l,i,h,m,n,j⟩=>if(decide (h<i))=true then(aI (U:=ZJ×Int×Int×Int×ZR×Zf×Zf) (if 0≤h then(if h<(List.length j:Int) then(if 0≤(nth (.int .i64) j h) then(if(nth (.int .i64) j h)<(List.length k:Int) then(oN (Int.toNat (List.length (nth (.slice 8 (.int .i64)) k (nth (.int .i64) j h)):Int)+1) (k,l,i,h,nth (.slice 8 (.int .i64)) k (nth (.int .i64) j h),(List.length (nth (.slice 8 (.int .i64)) k (nth (.int .i64) j h)):Int),0,m,n,j)) else none) else none) else none) else none) fun⟨a,b,c,d,e,f,g⟩=>rec7 (a,b,c,bB (d+1),e,f,g)) else(some (.brk (k,l,m,n)))
def GW:Nat→ZJ×Int×ZR×Zf→Option (cV ZR ZR):=aM fun ahA ⟨j,k,l,i⟩=>if(decide ((0:Int)<(List.length i:Int)))=true then(aI (U:=ZJ×Int×ZR×Zf) (aI (U:=ZJ×Int×ZR×Zf) (qS (Int.toNat (List.length i:Int)+1) (j,k,(List.length i:Int),0,l,([]:Zf),i)) fun⟨a,b,c,d⟩=>some (.brk (a,b,c,d))) fun⟨e,f,g,h⟩=>ahA (e,bB (f+1),g,h)) else(some (.brk l))
def uJ(_a0:jf)(a1:ZJ)(a2:Int):Option ZR:=
 aI (U:=ZR) (GW gn (a1,1,([]:ZR),[a2])) fun v1=>some v1
def Wv:SS:=⟨59,99,[(1,.val (.slice 24 (.slice 8 (.int .i64)))),(7,.mp 33),(8,.own 78),tI 9],[(33,.map (.int .i64) (.int .i64)),(78,.row 3 8 (.int .i64))],[]⟩
def Ww:SS:=⟨59,99,[(1,.val (.slice 24 (.slice 8 (.int .i64)))),(7,.mp 33),tI 9,(10,.own 76),(25,.own 79),tI 26,tI 27],[(33,.map (.int .i64) (.int .i64)),(76,.row 3 8 (.int .i64)),(79,.row 3 8 (.int .i64))],[]⟩
def Wx:SS:=⟨59,99,[(1,.val (.slice 24 (.slice 8 (.int .i64)))),(7,.mp 33),tI 9,(10,.own 78)],[(33,.map (.int .i64) (.int .i64)),(78,.row 3 8 (.int .i64))],[]⟩
def Wy:SS:=⟨59,99,[(7,.mp 33)],[(33,.map (.int .i64) (.int .i64))],[]⟩
def Wz:SS:=⟨59,99,[(1,.val (.slice 24 (.slice 8 (.int .i64)))),(7,.mp 33),(8,.own 79),tI 9],[(33,.map (.int .i64) (.int .i64)),(79,.row 3 8 (.int .i64))],[]⟩
def WA:SS:=⟨59,99,[(1,.val (.slice 24 (.slice 8 (.int .i64)))),(7,.mp 33),tI 9,(10,.own 77),(25,.own 79),tI 26,tI 27],[(33,.map (.int .i64) (.int .i64)),(77,.row 3 8 (.int .i64)),(79,.row 3 8 (.int .i64))],[]⟩
def WC:SS:=⟨59,99,[(1,.val (.slice 24 (.slice 8 (.int .i64)))),(7,.mp 33),tI 9,(10,.own 75),(25,.own 79),tI 26,tI 27,(34,.val (.slice 8 (.int .i64))),tI 35,tI 36],[(33,.map (.int .i64) (.int .i64)),(75,.row 3 8 (.int .i64)),(79,.row 3 8 (.int .i64))],[]⟩
def WD:SS:=⟨59,99,[(6,.mp 33)],[(33,.map (.int .i64) (.int .i64))],[]⟩
def Ql:aX:=aE G [.tmp 6] 21 [.val xe,.val (.slice 24 (.slice 8 (.int .i64))),vI] [] 99 WD [33] (.bC (u3 uJ))
theorem Qm:hS Ql:=
 cO ⟨[],[(5,Wv),(18,Ww),(19,Wx),(20,Wy)],[],[(4,⟨Wz,fun _=>gn⟩),(8,⟨WA,fun u6=>Int.toNat u6.2.2.1+1⟩),(11,⟨WC,fun u9=>Int.toNat u9.2.2.2.2.2.1+1⟩)],[],[]⟩ hz aH Tryz.call21 Tryz.func21
def CB(a0:ZR):Option ZR:=
 some a0
def WE:SS:=⟨4,44,[(2,.func 40 .nil (.cons (pP 17) .nil))],[(0,.map (.int .i64) (.int .i64)),(17,.var (.map (.int .i64) (.int .i64)) (.mp 0))],[]⟩
def Qn:aX:=aE G [.tmp 2] 20 [.mp 0] [(0,.map (.int .i64) (.int .i64))] 44 WE [0,17] (.bC (u1 CB))
theorem Qo:hS Qn:=
 cO (hR []) hz aH Tryz.call20 Tryz.func20
def CC(a0:ZR):Option (ZR×Zf):=
 Option.map (fun r=>(a0,r)) (AZ a0)
def Tw:SS:=⟨9,49,[(2,.own 23)],[(0,.var (.map (.int .i64) (.int .i64)) (.mp 1)),(1,.map (.int .i64) (.int .i64)),(23,.row 3 8 (.int .i64))],[]⟩
def Qp:aX:=aE G [.tmp 2] 19 [.func 40 .nil (.cons (pP 0) .nil)] [(0,.var (.map (.int .i64) (.int .i64)) (.mp 1)),(1,.map (.int .i64) (.int .i64))] 49 Tw [0,1,23] (.bC (u1 CC))
theorem Qq:hS Qp:=
 ⟨fun d y h=>by
  obtain⟨r,hr,rfl⟩:=Option.map_eq_some_iff.1 (show Option.map _ (AZ d.1)=some y from h)
  exact cast (by kernel_rfl) (LK (tv:=(.map (.int .i64) (.int .i64))) Ud NZ RI (show¬gl.md from fun h=>h) Tryz.call19 Tryz.call39 Tryz.call40 (by exact hr) 49 23 (by decide) (by decide) (by decide)),fun _ _ h=>h.elim⟩
end Go.Proofs.YtaghhonjcdokjaaGreatDoor
