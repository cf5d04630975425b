/- part -/
import Derived.Test.YtgdcjlldafmomaaGreatBase
noncomputable section
namespace Go.Proofs.YtgdcjlldafmomaaGreat
open Go.Ax
def f35(a0:Int):Option gX:=
 some (0,4,a0,())
def s1:SS:=⟨5,45,[tP 2 18],[(18,bV bx)],[]⟩
def c35:aW:=aF G [.cell 2 72] 35 [vI] [] 45 s1 [] (.bE (u1 f35))
theorem x35:hS c35:=
 cO (hR []) hz aI Tryz.call35 Tryz.func35
def f17:Option bT:=
 aG (U:=ZF×ZA) (some (.brk ([[120]],[([115],[120],0,1,[([115,101,108,102],(3,0,4095,[],(-1:Int),([]:ZF),()),Ty.aD L8,()),([97],(1,0,9,[],(-1:Int),([]:ZF),()),Ty.aD L8,()),([98],(1,0,9,[],(-1:Int),([]:ZF),()),Ty.aD L8,())],([]:List ja),())]))) fun⟨a,b⟩=>Option.bind (f35 (1:Int)) fun y2=>Option.bind (f35 (2:Int)) fun y3=>Option.bind (f35 (1:Int)) fun y4=>some (((a,([]:Zq),b,([]:Zn),([]:ZC),([]:Zz),()),[(0:Int)],()),[(y2,7,(2,10,()),10,0,()),(y3,8,(2,10,()),10,1,()),(y4,6,(5,6,()),20,0,())],())
def s2:SS:=⟨35,75,[tP 0 16,tP 2 18],[(16,.var fb (.cons (.cons (.cons .bA (.cons .bA (.cons .bA (.cons .bA (.cons .bA (.cons .bA .nil)))))) (.cons .bA .nil)) (.cons .bA .nil))),(18,.var gE (.cons (.own 22) (.cons .bA (.cons (.own 31) (.cons .bA (.cons .bA (.cons .bA .nil))))))),(22,.row 9 16 .str),(31,.row 103 96 bG)],[]⟩
def s3:SS:=⟨35,75,[tP 0 16],[(16,bV fb)],[]⟩
def c17:aW:=aF G [.cell 0 35] 17 [] [] 75 s3 [] (.bE (fun _=>f17))
theorem x17:hS c17:=
 cO ⟨[(2,⟨[],[(9,14,bG)],[],none,[],[],[]⟩),hE 5 [cA 0,cA 0,cA 0]],[(3,s2)],[],[],[],[]⟩ (hq x35 hz) aI Tryz.call17 Tryz.func17
def Lv:Nat→Int×Ze×Int×Int×tS→Option (cQ tS Bool):=aK fun acK ⟨d,c,b,a,e⟩=>if(decide (a<b))=true then(if 0≤a then(if a<(List.length c:Int) then(if(decide ((nth (.int .i64) c a)≤d))=true then none else(acK (nth (.int .i64) c a,c,b,aZ (a+1),e))) else none) else none) else(some (.brk e))
def f20(a0:tS):Zl:=
 aG (U:=tS) (Lv (Int.toNat (List.length a0.2.2.2.2.2.2.2.1:Int)+1) ((-1:Int),a0.2.2.2.2.2.2.2.1,(List.length a0.2.2.2.2.2.2.2.1:Int),0,a0)) fun v1=>some (decide ((List.length v1.2.2.2.2.2.2.2.1:Int)=(List.length v1.2.2.2.2.2.2.2.2.1:Int)))
def s4:SS:=⟨25,65,[tP 1 17],[(17,bV lF)],[]⟩
def s5:SS:=⟨25,65,[tP 1 17,tI 3,(7,.val (.slice 8 (.int .i64))),tI 8,tI 9],[(17,bV lF)],[]⟩
def s6:SS:=⟨25,65,[(2,vB)],[],[]⟩
def c20:aW:=aF G [.tmp 2] 20 [.val lF] [] 65 s6 [] (.bE (u1 f20))
theorem X4:hS c20:=
 cO ⟨[(6,⟨[],[],[],none,[(0,9999)],[],[]⟩)],[(9,s4)],[],[(3,⟨s5,fun u2=>Int.toNat u2.2.2.1+1⟩)],[],[]⟩ hz aI Tryz.call20 Tryz.func20
def CK(_a0:dq)(_a1:Int):Zl:=
 none
def s7:SS:=⟨8,48,[(3,vB)],[],[]⟩
def HV:aW:=aF G [.tmp 3] 109 [.val bz,.bL (.int .i64)] [] 48 s7 [] (.bE (u2 CK))
theorem HX:hS HV:=
 cO (hR [(0,⟨[],[],[],none,[(0,9999)],[],[]⟩)]) hz aI Tryz.call109 Tryz.func109
def AN:Nat→Zn×Int×ZX→Option (cQ Unit Int):=aK fun acK ⟨c,d,b,a⟩=>if(decide (a<b))=true then(if 0≤a then(if a<(List.length c:Int) then(Option.bind (CK (nth bz c a) d) fun y4=>if y4=true then(bZ (some a)) else(acK (c,d,b,aZ (a+1)))) else none) else none) else(some (.brk ()))
def CL(a0:Zn)(a1:Int):ZM:=
 aG (U:=Unit) (AN (Int.toNat (List.length a0:Int)+1) (a0,a1,(List.length a0:Int),0)) fun _=>some (-1:Int)
def s8:SS:=⟨19,59,[],[],[]⟩
def s9:SS:=⟨19,59,[(0,.val (.slice 96 bz)),(1,.func 109 .nil (.cons (.bL (.int .i64)) .nil)),tI 7,tI 8],[],[]⟩
def s10:SS:=⟨19,59,[tI 4],[],[]⟩
def HY:aW:=aF G [.tmp 4] 161 [.val (.slice 96 bz),.func 109 .nil (.cons (.bL (.int .i64)) .nil)] [] 59 s10 [] (.bE (u2 CL))
theorem HZ:hS HY:=
 cO ⟨[hA 4 0],[(7,s8)],[],[(2,⟨s9,fun u2=>Int.toNat u2.2.2.1+1⟩)],[],[]⟩ (hq HX hz) aI Tryz.call161 Tryz.func161
def CM(a0:Zn)(a1:Int):Zl:=
 Option.bind (CL a0 a1) fun y1=>some (decide ((0:Int)≤y1))
def s11:SS:=⟨9,49,[(4,vB)],[],[]⟩
def H3:aW:=aF G [.tmp 4] 108 [.val (.slice 96 bz),.func 109 .nil (.cons (.bL (.int .i64)) .nil)] [] 49 s11 [] (.bE (u2 CM))
theorem H4:hS H3:=
 cO (hR [hA 1 0]) (hq HZ hz) aI Tryz.call108 Tryz.func108
def f66(a0:cz)(a1:Int):ZM:=
 Option.bind (α:=Bool) (if(decide ((0:Int)≤a1))=true then(if(decide (a1<(List.length a0.2.2.1:Int)))=true then(Option.bind (CM a0.2.2.2.1 a1) fun y1=>some y1) else(some false)) else(some false)) fun v2=>if v2=true then none else(some (0:Int))
def X6:SS:=⟨20,60,[tI 4],[],[]⟩
def c66:aW:=aF G [.tmp 4] 66 [.val gE,vI] [] 60 X6 [] (.bE (u2 f66))
theorem x66:hS c66:=
 cO (hR [hD 1 19 [cA 0],(2,⟨[],[],[],none,[(0,9999)],[],[]⟩)]) (hq H4 hz) aI Tryz.call66 Tryz.func66
def f65(_a0:bT)(_a1:Int)(_a2:Int)(_a3:Int)(_a4:Int)(_a5:Int):Option (Zi×Bool×uC):=
 none
def s13:SS:=⟨27,67,[tP 12 28,(13,.val (.slice 40 bC)),(14,vB)],[(28,bV fL)],[]⟩
def c65:aW:=aF G [.cell 12 53,.tmp 13,.tmp 14] 65 [.val fb,vI,vI,vI,vI,vI] [] 67 s13 [] (.bE (u6 f65))
theorem x65:hS c65:=
 cO (hR [(0,⟨[],[],[],none,[(0,9999)],[],[]⟩)]) hz aI Tryz.call65 Tryz.func65
def AO:Nat→Int×Zn×Int×Int×Zm→Option (cQ (Int×Zm) Bool):=aK fun adl ⟨e,c,b,a,d⟩=>if(decide (a<b))=true then(if 0≤a then(if a<(List.length c:Int) then(if List.length d+1≤aE then(adl (e,c,b,aZ (a+1),bB (.int .i64) (nth bz c a).2.1 true d)) else none) else none) else none) else(some (.brk (e,d)))
def f49(a0:cz)(a1:Int):Zl:=
 aG (U:=Int×cz) (Option.bind (α:=Bool) (if(decide (a1<(0:Int)))=true then(some true) else(if(decide ((List.length a0.2.2.1:Int)≤a1))=true then(some true) else(if 0≤a1 then(if a1<(List.length a0.2.2.1:Int) then(some (decide ((List.length (nth bG a0.2.2.1 a1).2.2.2.2.1:Int)<(2:Int)))) else none) else none))) fun v2=>if v2=true then(bZ (some false)) else(some (.brk (a1,a0)))) fun⟨b,a⟩=>aG (U:=Int×Zm) (AO (Int.toNat (List.length a.2.2.2.1:Int)+1) (b,a.2.2.2.1,(List.length a.2.2.2.1:Int),0,([]:Zm))) fun⟨c,d⟩=>some (!(bw (.int .i64) .bool c d))
def s14:SS:=⟨43,83,[tI 1,tP 2 18],[(18,bV gE)],[]⟩
def s15:SS:=⟨43,83,[tI 1,(5,.mp 43)],[(43,.map (.int .i64) .bool)],[]⟩
def s16:SS:=⟨43,83,[tI 1,(5,.mp 43),(29,.val (.slice 96 bz)),tI 30,tI 31],[(43,.map (.int .i64) .bool)],[]⟩
def s17:SS:=⟨43,83,[(4,vB)],[],[]⟩
def c49:aW:=aF G [.tmp 4] 49 [.val gE,vI] [] 83 s17 [] (.bE (u2 f49))
theorem x49:hS c49:=
 cO ⟨[hD 1 26 []],[(3,s14),(9,s15)],[],[(5,⟨s16,fun u4=>Int.toNat u4.2.2.1+1⟩)],[],[]⟩ hz aI Tryz.call49 Tryz.func49
def f50(a0:Int)(a1:Int):Zl:=
 Option.bind (α:=Bool) (if(decide ((0:Int)≤a0))=true then(if(decide (a0<(4096:Int)))=true then(if(decide ((0:Int)≤a1))=true then(some (decide (a1<(4:Int)))) else(some false)) else(some false)) else(some false)) fun v1=>some v1
def s18:SS:=⟨19,59,[(4,vB)],[],[]⟩
def c50:aW:=aF G [.tmp 4] 50 [vI,vI] [] 59 s18 [] (.bE (u2 f50))
theorem x50:hS c50:=
 cO (hR [hD 1 4 []]) hz aI Tryz.call50 Tryz.func50
def f52(a0:Int)(a1:Int)(a2:Int)(a3:Int):Option gX:=
 some (a0,a1,aZ ((aZ ((16:Int)*a2))+a3),())
def s19:SS:=⟨16,56,[tP 8 24],[(24,bV bx)],[]⟩
def c52:aW:=aF G [.cell 8 72] 52 [vI,vI,vI,vI] [] 56 s19 [] (.bE (u4 f52))
theorem x52:hS c52:=
 cO (hR []) hz aI Tryz.call52 Tryz.func52
def sX(a0:Zk)(a1:gX)(a2:Int):Option (Zk×gX×Int):=
 some (a0,a1,a2)
def s20:SS:=⟨8,48,[(6,.func 68 .nil (.cons (pP 19) (.cons (pP 20) (.cons (pP 21) .nil))))],[(19,.var (.slice 64 aO) (.val (.slice 64 aO))),(20,bV bx),(21,bI)],[]⟩
def Lw:aW:=aF G [.tmp 6] 41 [.val (.slice 64 aO),.val bx,vI] [] 48 s20 [19,20,21] (.bE (u3 sX))
theorem Fh:hS Lw:=
 cO (hR []) hz aI Tryz.call41 Tryz.func41
def f110(a0:Int):Zl:=
 some (!decide (a0=a0))
def s21:SS:=⟨6,46,[(2,vB)],[],[]⟩
def RZ:aW:=aF G [.tmp 2] 110 [vI] [] 46 s21 [] (.bE (u1 f110))
theorem R0:hS RZ:=
 cO (hR []) hz aI Tryz.call110 Tryz.func110
def f70(a0:Int)(a1:Int):ZM:=
 Option.bind (f110 a0) fun y1=>Option.bind (f110 a1) fun y2=>if y1=true then(if y2=true then(some (0:Int)) else(some (-1:Int))) else(if y2=true then(some (1:Int)) else(if(decide (a0<a1))=true then(some (-1:Int)) else(if(decide (a1<a0))=true then(some (1:Int)) else(some (0:Int)))))
def c70:aW:=aF G [.tmp 4] 70 [vI,vI] [] 60 X6 [] (.bE (u2 f70))
theorem x70:hS c70:=
 cO (hR [hA 1 0,hA 2 0]) (hq R0 hz) aI Tryz.call70 Tryz.func70
def AP:Nat→Int×Ze×ZX→Option (cQ Int Int):=aK fun acK ⟨d,c,b,a⟩=>if(decide (a<b))=true then(if 0≤a then(if a<(List.length c:Int) then(if(!decide ((nth (.int .i64) c a)=d))=true then(bZ (some (nth (.int .i64) c a))) else(acK (d,c,b,aZ (a+1)))) else none) else none) else(some (.brk d))
def f69(a0:Ze):ZM:=
 aG (U:=Int) (AP (Int.toNat (List.length a0:Int)+1) (0,a0,(List.length a0:Int),0)) fun v1=>some v1
def s22:SS:=⟨18,58,[tI 3],[],[]⟩
def s23:SS:=⟨18,58,[tI 3,(6,.val (.slice 8 (.int .i64))),tI 7,tI 8],[],[]⟩
def s24:SS:=⟨18,58,[tI 2],[],[]⟩
def c69:aW:=aF G [.tmp 2] 69 [.val (.slice 8 (.int .i64))] [] 58 s24 [] (.bE (u1 f69))
theorem x69:hS c69:=
 cO ⟨[],[(8,s22)],[],[(3,⟨s23,fun u2=>Int.toNat u2.2.2.1+1⟩)],[],[]⟩ hz aI Tryz.call69 Tryz.func69
def f42(a0:eQ)(a1:eQ):ZM:=
 Option.bind (f70 a0.2.2.2.1 a1.2.2.2.1) fun y1=>Option.bind (f70 a0.2.2.2.2.1 a1.2.2.2.2.1) fun y2=>Option.bind (f69 [y1,y2]) fun y3=>some y3
def s25:SS:=⟨17,57,[tI 4],[],[]⟩
def c42:aW:=aF G [.tmp 4] 42 [.val aO,.val aO] [] 57 s25 [] (.bE (u2 f42))
theorem X7:hS c42:=
 cO (hR [hE 1 [cA 0,cA 0,cA 1]]) (hq x70 (hq x69 hz)) aI Tryz.call42 Tryz.func42
def pM(l_:Nat)(Y_:eQ×YC×Nat×Nat×Int×Nat×eQ×Nat×Bool×Unit→Tr):Nat→Nat×Zk×Int×Int×ZO→Option (cQ ZO ZO):=aK fun acK ⟨o,l,k,j,p,q,r,s,t,u,v,w,x,m,n⟩=>if(decide (j<k))=true then(if 0≤j then(if j<(List.length l:Int) then(if(aY bx (nth aO l j).1 m)=true then(if(decide ((nth aO l j).2.2.2.1≤n))=true then(if o=l_ then(Option.bind (Y_ (nth aO l j,p,q,r,s,t,u,v,w,())) fun⟨a,b,c,d,e,f,g,h,i⟩=>if(!a)=true then(bZ (some (b,c,d,e,f,g,h,i,x,m,n))) else(acK (o,l,k,aZ (j+1),b,c,d,e,f,g,h,i,x,m,n))) else none) else(acK (o,l,k,aZ (j+1),p,q,r,s,t,u,v,w,x,m,n))) else(acK (o,l,k,aZ (j+1),p,q,r,s,t,u,v,w,x,m,n))) else none) else none) else(some (.brk (p,q,r,s,t,u,v,w,x,m,n)))
def AQ(l_:Nat)(Y_:eQ×YC×Nat×Nat×Int×Nat×eQ×Nat×Bool×Unit→Tr)(a0:Nat)(a1:YC)(a2:Nat)(a3:Nat)(a4:Int)(a5:Nat)(a6:eQ)(a7:Nat)(a8:Bool)(a9:Zk)(a10:gX)(a11:Int):Option ZO:=
 aG (U:=ZO) (pM l_ Y_ (Int.toNat (List.length a9:Int)+1) (a0,a9,(List.length a9:Int),0,a1,a2,a3,a4,a5,a6,a7,a8,a9,a10,a11)) fun⟨a,b,c,d,e,f,g,h,i,j,k⟩=>some (a,b,c,d,e,f,g,h,i,j,k)
def X8:SS:=⟨30,70,[],[(0,.lp),(1,.tv (.int .i64) vI),(2,.tv aO (.val aO)),(3,.tv .bool vB),(4,.var (.slice 64 aO) (.val (.slice 64 aO))),(5,bV bx),(6,bI)],[]⟩
def s27:SS:=⟨30,70,[(0,.vw),tP 2 5,tP 3 6,(7,.val (.slice 64 aO)),tI 8,tI 9],[(0,.lp),(1,.tv (.int .i64) vI),(2,.tv aO (.val aO)),(3,.tv .bool vB),(4,.var (.slice 64 aO) (.val (.slice 64 aO))),(5,bV bx),(6,bI)],[]⟩
def AR:IC:=⟨[.val aO],[(0,.lp),(1,.tv (.int .i64) vI),(2,.tv aO (.val aO)),(3,.tv .bool vB)],90,0,[(1,.tv (.int .i64) vI),(2,.tv aO (.val aO)),(3,.tv .bool vB)],fun l f=>aF G [] 68 [.vw,pP 4,pP 5,pP 6] [(0,.lp),(1,.tv (.int .i64) vI),(2,.tv aO (.val aO)),(3,.tv .bool vB),(4,.var (.slice 64 aO) (.val (.slice 64 aO))),(5,bV bx),(6,bI)] 70 X8 [0,1,2,3,4,5,6] (.bE (Lc (AQ l f)))⟩
theorem Lx:AR.holds Tryz.prog gl:=fun B hB l f hY=>
 aW.of tied (H:=⟨[hE 3 [cB 0 [(0,0),(1,1),(2,2),(3,3)] []]],[],[(0,X8)],[(1,⟨s27,fun u2=>Int.toNat u2.2.2.1+1⟩)],[],[]⟩) (hold (l:=[IC.Y AR l f]) ⟨hY,trivial⟩) aI rfl Tryz.call68 Tryz.func68 rfl rfl rfl rfl (fun _=>by kernel_rfl) (fun _=>by kernel_rfl)
def wU(y_:YC)(b5_0:eQ)(yt:YC)(yj:Nat)(g1:Nat)(c5_0:Int)(g2:Nat)(c5_1:eQ)(g3:Nat)(c5_2:Bool):Tr:=
 EC yt y_ (if yj=0 then(if g1=y_.gs 1 then(if g2=y_.gs 2 then(if g3=y_.gs 3 then(Option.bind (α:=Nat×Nat×Int×Nat×eQ×Nat×Bool) (Option.bind (α:=Bool) (if(decide (b5_0.2.2.1.1≤c5_0))=true then(if(decide (c5_0<b5_0.2.2.1.2.1))=true then(if(!c5_2)=true then(some true) else(Option.bind (f42 c5_1 b5_0) fun y3=>some (decide (y3≤(0:Int))))) else(some false)) else(some false)) fun v4=>if v4=true then(some (0,y_.gs 1,c5_0,y_.gs 2,b5_0,y_.gs 3,true)) else(some (0,y_.gs 1,c5_0,y_.gs 2,c5_1,y_.gs 3,c5_2))) fun r_=>if r_.2.1=y_.gs 1 then(if r_.2.2.2.1=y_.gs 2 then(if r_.2.2.2.2.2.1=y_.gs 3 then(some (Nat.beq r_.1 0,y_,r_.1,r_.2.1,r_.2.2.1,r_.2.2.2.1,r_.2.2.2.2.1,r_.2.2.2.2.2.1,r_.2.2.2.2.2.2)) else none) else none) else none) else none) else none) else none) else none)
def f53(a0:Zk)(a1:gX)(a2:Int)(a3:Int):Option (Int×Bool):=
 aG (U:=eQ×Bool) (Option.bind (sX a0 a1 a3) fun⟨a,b,c⟩=>tL fun y5=>Option.bind (AQ y5.l (fun d=>wU y5 d.1 d.2.1 d.2.2.1 d.2.2.2.1 d.2.2.2.2.1 d.2.2.2.2.2.1 d.2.2.2.2.2.2.1 d.2.2.2.2.2.2.2.1 d.2.2.2.2.2.2.2.2.1) y5.l y5 0 (y5.gs 1) a2 (y5.gs 2) ((0,0,0,()),0,(0,0,()),0,0,()) (y5.gs 3) false a b c) fun⟨e,f,_,_,_,g,_,h,_,_,_⟩=>EC e y5 (if f=0 then(some (.brk (g,h))) else none)) fun⟨j,i⟩=>Option.bind (α:=Bool) (if(!i)=true then(some true) else(some (decide (j.2.1<(0:Int))))) fun v7=>if v7=true then(some (0,false)) else(some (j.2.1,true))
def s28:SS:=⟨50,90,[tP 10 26,tP 11 27],[(26,bV aO),(27,.var .bool vB),(68,.sI)],[.mp 68]⟩
def s29:SS:=⟨50,90,[tP 6 22,tI 8,(9,vB),tP 10 26,tP 11 27,(16,.func 68 .nil (.cons (pP 32) (.cons (pP 66) (.cons (pP 67) .nil))))],[(22,bI),(26,bV aO),(27,.var .bool vB),(32,.var (.slice 64 aO) (.val (.slice 64 aO))),(66,bV bx),(67,bI)],[]⟩
def s30:SS:=⟨50,90,[],[(1,bI),(2,bV aO),(3,.var .bool vB)],[]⟩
def X9:SS:=⟨50,90,[tI 8,(9,vB)],[],[]⟩
def c53:aW:=aF G [.tmp 8,.tmp 9] 53 [.val (.slice 64 aO),.val bx,vI,vI] [] 90 X9 [] (.bE (u4 f53))
theorem x53:hS c53:=
 cO ⟨[hE 3 [cB 0 [] [(19,32),(20,66),(21,67)]],hD 5 39 [cA 1],hD 7 47 []],[(7,s28)],[],[],[],[(5,⟨0,68,69,[(1,.int .i64),(2,aO),(3,.bool)],[(22,1),(26,2),(27,3)],[],[(0,69),(1,22),(2,26),(3,27),(4,32),(5,66),(6,67)],[],s29,s30⟩)]⟩ (hq Fh (hq X7 hz)) (vN (L:=[AR]) ⟨Lx,trivial⟩) Tryz.call53 Tryz.func53
end Go.Proofs.YtgdcjlldafmomaaGreat
