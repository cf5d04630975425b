/- part -/
import Derived.Test.YtpmlkhjpbjnagaaGreatUV
noncomputable section
namespace Go.Proofs.YtpmlkhjpbjnagaaGreat
open Go.Ax
def Nb(a0:bz)(a1:Ze)(a2:Int)(a3:Int)(a4:Int)(_a5:Zo):Ec:=
 (iM a0 a1 a2 a3 a4).bind fun y1=>if !y1 then(some ([]:Zn)) else none
def Vl:aZ:=aG G [.tmp 12] 13 [.val fF,.val (.slice 8 (.int .i64)),vI,vI,vI,.val (.slice 32 bB)] [] 123 R0 [] (.bq (u6 Nb))
theorem Vm:hS Vl:=
 cO (hR [hA 1 0,(4,⟨[],[],[],none,[(0,9999)],[],[]⟩)]) (hq pZ hz) aK Tryz.call13 Tryz.func13
def f13(a0:bz)(a1:Ze)(a2:Int)(a3:Int)(a4:Int)(a5:Zo):Ec:=
 Pm (oG a0 a1 a2 a3 a4 a5) (Nb a0 a1 a2 a3 a4 a5)
def c13:aZ:=aG G [.tmp 12] 13 [.val fF,.val (.slice 8 (.int .i64)),vI,vI,vI,.val (.slice 32 bB)] [] 123 R0 [] (.bq (u6 f13))
theorem x13:hS c13:=aZ.or R6 Vm
def Nc(a0:bz)(a1:Ze)(a2:Int)(a3:Int)(a4:Int):Ec:=
 (fv a0 a1 a2 a3 a4).bind fun⟨a,d,e,f,g,h,i,j,k,b,c,n,l,m⟩=>if !a then(some ([]:Zn)) else((nG b c d e f g h i j k l m n).bind fun⟨o,_,_,_,_,_,_,_,_,_,_,_,_,_⟩=>some o)
def JQ:SS:=⟨26,66,[(10,.val (.slice 48 br))],[],[]⟩
def Vn:aZ:=aG G [.tmp 10] 15 [.val fF,.val (.slice 8 (.int .i64)),vI,vI,vI] [] 66 JQ [] (.bq (u5 Nc))
theorem Vo:hS Vn:=
 cO (hR [hE 1 [cB 0 [] [(41,35),(45,42),(47,43),(82,44),(88,45),(89,46)]],hE 4 [cB 1 [(0,43),(1,35),(2,42),(3,45),(4,46),(5,44)] []]]) (hq pN (hq BZ hz)) aK Tryz.call15 Tryz.func15
def Nf(a0:bz)(a1:Ze)(a2:Int)(a3:Int)(a4:Int):Ec:=
 (iM a0 a1 a2 a3 a4).bind fun y1=>if !y1 then(some ([]:Zn)) else none
def Vp:aZ:=aG G [.tmp 10] 15 [.val fF,.val (.slice 8 (.int .i64)),vI,vI,vI] [] 66 JQ [] (.bq (u5 Nf))
theorem Vq:hS Vp:=
 cO (hR [hA 1 0,(4,⟨[],[],[],none,[(0,9999)],[],[]⟩)]) (hq pZ hz) aK Tryz.call15 Tryz.func15
def f15(a0:bz)(a1:Ze)(a2:Int)(a3:Int)(a4:Int):Ec:=
 Pm (Nc a0 a1 a2 a3 a4) (Nf a0 a1 a2 a3 a4)
def c15:aZ:=aG G [.tmp 10] 15 [.val fF,.val (.slice 8 (.int .i64)),vI,vI,vI] [] 66 JQ [] (.bq (u5 f15))
theorem x15:hS c15:=aZ.or Vo Vq
def f65(a0:k9)(a1:k9):Zl:=
 Option.bind (α:=Bool) (if decide (a0.1=a1.1) then(if decide (a0.2.1=a1.2.1) then(some (decide (a0.2.2.1=a1.2.2.1))) else(some false)) else(some false)) fun v1=>some v1
def ah2:SS:=⟨24,64,[(4,vB)],[],[]⟩
def c65:aZ:=aG G [.tmp 4] 65 [.val br,.val br] [] 64 ah2 [] (.bq (u2 f65))
theorem x65:hS c65:=
 cO (hR [hD 1 4 []]) hz aK Tryz.call65 Tryz.func65
def Ng:Nat→Int×k9×k9→Zs:=aL fun rec6 ⟨a,b,c⟩=>if decide (a<(b.2.2.2.1.length:Int)) then(if 0≤a then(if a<(b.2.2.2.1.length:Int) then(if 0≤a then(if a<(c.2.2.2.1.length:Int) then(if !decide ((nth (.int .i64) b.2.2.2.1 a)=(nth (.int .i64) c.2.2.2.1 a)) then(bX (some false)) else(rec6 (bp (a+1),b,c))) else none) else none) else none) else none) else(some (.brk ()))
def f42(a0:k9)(a1:k9):Zl:=
 aI (U:=k9×k9) (Option.bind (α:=Bool) ((f65 a0 a1).bind fun y2=>if !y2 then(some true) else(some (!decide ((a0.2.2.2.1.length:Int)=(a1.2.2.2.1.length:Int))))) fun v3=>if v3=true then(bX (some false)) else(some (.brk (a0,a1)))) fun⟨a,b⟩=>aI (U:=Unit) (Ng iZ (0,a,b)) fun _v4=>some true
def ah3:SS:=⟨37,77,[tP 2 18,tP 3 19],[(18,bV br),(19,bV br)],[]⟩
def ah4:SS:=⟨37,77,[],[],[]⟩
def ah5:SS:=⟨37,77,[tP 2 18,tP 3 19,tI 5],[(18,bV br),(19,bV br)],[]⟩
def ah6:SS:=⟨37,77,[(4,vB)],[],[]⟩
def c42:aZ:=aG G [.tmp 4] 42 [.val br,.val br] [] 77 ah6 [] (.bq (u2 f42))
theorem x42:hS c42:=
 cO ⟨[hD 1 18 [cA 0]],[(3,ah3),(8,ah4)],[],[(4,⟨ah5,fun _=>iZ⟩)],[],[]⟩ (hq x65 hz) aK Tryz.call42 Tryz.func42
def Vr:Nat→Zn×Zn×Int→Zs:=aL fun al4 ⟨b,c,a⟩=>if decide (a<(b.length:Int)) then(if 0≤a then(if a<(b.length:Int) then(if 0≤a then(if a<(c.length:Int) then((f42 (nth br b a) (nth br c a)).bind fun y4=>if !y4 then none else(al4 (b,c,bp (a+1)))) else none) else none) else none) else none) else(some (.brk ()))
def f20(a0:Zn)(a1:Zn):Zl:=
 if !decide ((a0.length:Int)=(a1.length:Int)) then none else(aI (U:=Unit) (Vr iZ (a0,a1,0)) fun _v1=>some true)
def ah7:SS:=⟨27,67,[],[],[]⟩
def ah8:SS:=⟨27,67,[(0,.val (.slice 48 br)),(1,.val (.slice 48 br)),tI 5],[],[]⟩
def ah9:SS:=⟨27,67,[(4,vB)],[],[]⟩
def c20:aZ:=aG G [.tmp 4] 20 [.val (.slice 48 br),.val (.slice 48 br)] [] 67 ah9 [] (.bq (u2 f20))
theorem x20:hS c20:=
 cO ⟨[(2,⟨[],[],[],none,[(0,9999)],[],[]⟩),hA 6 0,(7,⟨[],[],[],none,[(0,9999)],[],[]⟩)],[(8,ah7)],[],[(4,⟨ah8,fun _=>iZ⟩)],[],[]⟩ (hq x42 hz) aK Tryz.call20 Tryz.func20
def Nh(a0:bz)(a1:Int)(a2:Int)(a3:Int):Ec:=
 (fv a0 ([]:Ze) a1 a2 a3).bind fun⟨a,d,e,f,g,h,i,j,k,b,c,n,l,m⟩=>if !a then(some ([]:Zn)) else((nG b c d e f g h i j k l m n).bind fun⟨o,_,_,_,_,_,_,_,_,_,_,_,_,_⟩=>some o)
def Vs:aZ:=aG G [.tmp 10] 15 [.val fF,.bn,vI,vI,vI] [] 66 JQ [] (.bq (u4 Nh))
theorem Vt:hS Vs:=
 cO (hR [hE 1 [cB 0 [] [(41,35),(45,42),(47,43),(82,44),(88,45),(89,46)]],hE 4 [cB 1 [(0,43),(1,35),(2,42),(3,45),(4,46),(5,44)] []]]) (hq pN (hq BZ hz)) aK Tryz.call15 Tryz.func15
def Ni(a0:bz)(a1:Int)(a2:Int)(a3:Int):Ec:=
 (iM a0 ([]:Ze) a1 a2 a3).bind fun y1=>if !y1 then(some ([]:Zn)) else none
def Vu:aZ:=aG G [.tmp 10] 15 [.val fF,.bn,vI,vI,vI] [] 66 JQ [] (.bq (u4 Ni))
theorem Vv:hS Vu:=
 cO (hR [hA 1 0,(4,⟨[],[],[],none,[(0,9999)],[],[]⟩)]) (hq pZ hz) aK Tryz.call15 Tryz.func15
def Nj(a0:bz)(a1:Int)(a2:Int)(a3:Int):Ec:=
 Pm (Nh a0 a1 a2 a3) (Ni a0 a1 a2 a3)
def Vw:aZ:=aG G [.tmp 10] 15 [.val fF,.bn,vI,vI,vI] [] 66 JQ [] (.bq (u4 Nj))
theorem Vx:hS Vw:=aZ.or Vt Vv
def B1(_a0:Ze)(a1:Zg)(a2:Zg):Ec:=
 (DU a1 a2).bind fun y1=>some y1
def Y3:SS:=⟨12,52,[(2,.val (.slice 48 br))],[],[]⟩
def Vy:aZ:=aG G [.tmp 2] 25 [.iv (.cons (.val (.slice 8 (.int .i64))) (.cons (.val (.map aJ br)) (.cons (.val (.map aJ br)) (.cons (.dK (.aT .ptr)) .nil))))] [] 52 Y3 [] (.bq (u3 B1))
theorem Vz:hS Vy:=
 cO (hR [hA 1 0]) (hq Pw hz) aK Tryz.call25 Tryz.func25
def B2(_a0:Ze)(a1:Zg)(a2:Zg):Ec:=
 (DU a2 a1).bind fun y1=>some y1
def VA:aZ:=aG G [.tmp 2] 23 [.iv (.cons (.val (.slice 8 (.int .i64))) (.cons (.val (.map aJ br)) (.cons (.val (.map aJ br)) (.cons (.dK (.aT .ptr)) .nil))))] [] 52 Y3 [] (.bq (u3 B2))
theorem VB:hS VA:=
 cO (hR [hA 1 0]) (hq Pw hz) aK Tryz.call23 Tryz.func23
def zO:Nat→Zn×Zn×Int×Int×ZD→Option (cJ (Zn×ZD) ZD):=aL fun al4 ⟨e,c,b,a,d⟩=>if decide (a<b) then(if 0≤a then(if a<(c.length:Int) then((f24 (2:Int) (nth br c a)).bind fun y4=>(f52 (nth br c a)).bind fun y5=>if d.length+1≤aH then(al4 (e,c,b,bp (a+1),aY bB y4 (y5,false,()) d)) else none) else none) else none) else(some (.brk (e,d)))
def zP:Nat→Zn×Int×Int×ZD→Option (cJ ZD ZD):=aL fun rec8 ⟨c,b,a,d⟩=>if decide (a<b) then(if 0≤a then(if a<(c.length:Int) then((f24 (1:Int) (nth br c a)).bind fun y9=>(f52 (nth br c a)).bind fun y10=>if d.length+1≤aH then(rec8 (c,b,bp (a+1),aY bB y9 (y10,true,()) d)) else none) else none) else none) else(some (.brk d))
def B3(a0:Zn)(a1:Zn):Option ZD:=
 aI (U:=Zn×ZD) (zO (Int.toNat (a0.length:Int)+1) (a1,a0,(a0.length:Int),0,([]:ZD))) fun⟨a,b⟩=>aI (U:=ZD) (zP (Int.toNat (a.length:Int)+1) (a,(a.length:Int),0,b)) fun v6=>some v6
def aia:SS:=⟨38,78,YZ,[(26,.map bB dJ)],[]⟩
def aib:SS:=⟨38,78,[(5,.mp 26)],[(26,.map bB dJ)],[]⟩
def aic:SS:=⟨38,78,Y0,[(26,.map bB dJ)],[]⟩
def aid:SS:=⟨38,78,Y1,[(26,.map bB dJ)],[]⟩
def aie:SS:=⟨38,78,[(4,.mp 26)],[(26,.map bB dJ)],[]⟩
def VD:aZ:=aG G [.tmp 4] 58 [.val (.slice 48 br),.val (.slice 48 br)] [] 78 aie [26] (.bq (u2 B3))
theorem VE:hS VD:=
 cO ⟨[hE 5 [cA 0,cA 1],hE 10 [cA 0,cA 1]],[(7,aia),(12,aib)],[],[(3,⟨aic,fun u2=>Int.toNat u2.2.2.1+1⟩),(8,⟨aid,fun u7=>Int.toNat u7.2.1+1⟩)],[],[]⟩ (hq x24 (hq Yj hz)) aK Tryz.call58 Tryz.func58
def zQ:Nat→Zo×Int×Int×ZD→Zs:=aL fun rec6 ⟨c,b,a,d⟩=>if decide (a<b) then(if 0≤a then(if a<(c.length:Int) then(if !(bT bB (nth bB c a) d) then(bX (some false)) else(rec6 (c,b,bp (a+1),iX bB (nth bB c a) d))) else none) else none) else(some (.brk ()))
def qa(a0:Ze)(a1:Zg)(a2:Zg)(a3:Zo):Zl:=
 (B1 a0 a1 a2).bind fun y1=>(B2 a0 a1 a2).bind fun y2=>(B3 y1 y2).bind fun y3=>if !decide ((a3.length:Int)=(y3.length:Int)) then(some false) else(aI (U:=Unit) (zQ (Int.toNat (a3.length:Int)+1) (a3,(a3.length:Int),0,y3)) fun _v4=>some true)
def aif:SS:=⟨37,77,[],[],[]⟩
def aih:SS:=⟨37,77,[(5,.mp 30),(20,.val (.slice 32 bB)),tI 21,tI 22],[(30,.map bB dJ)],[]⟩
def aii:SS:=⟨37,77,[(4,vB)],[],[]⟩
def VF:aZ:=aG G [.tmp 4] 34 [.iv (.cons (.val (.slice 8 (.int .i64))) (.cons (.val (.map aJ br)) (.cons (.val (.map aJ br)) (.cons (.dK (.aT .ptr)) .nil)))),.val (.slice 32 bB)] [] 77 aii [] (.bq (u4 qa))
theorem GA:hS VF:=
 cO ⟨[hE 1 [cA 0,cA 1,cB 2 [] [(26,30)]]],[(12,aif)],[],[(5,⟨aih,fun u5=>Int.toNat u5.2.1+1⟩)],[],[]⟩ (hq Vz (hq VB (hq VE hz))) aK Tryz.call34 Tryz.func34
def f59(a0:cL):Option rN:=
 some (a0.1,a0.2.1,())
def aij:SS:=⟨8,48,[tP 2 18],[(18,bV bw)],[]⟩
def c59:aZ:=aG G [.cell 2 155] 59 [.val aJ] [] 48 aij [] (.bq (u1 f59))
theorem x59:hS c59:=
 cO (hR []) hz aK Tryz.call59 Tryz.func59
def jS:Nat→Zo×Int×Int×List (rN×Int)×List (rN×Bool)→Zs:=aL fun rec7 ⟨i,h,g,j,k⟩=>if decide (g<h) then(if 0≤g then(if g<(i.length:Int) then(aI (U:=Zo×Int×Int×rN×List (rN×Int)×List (rN×Bool)) (if decide ((nth bB i g).1=(1:Int)) then(if bl bw ((nth bB i g).2.1,(nth bB i g).2.2.1,()) ((nth bB i g).2.1,(nth bB i g).2.2.1,())=true then(if j.length+1≤aH then(if bT bw ((nth bB i g).2.1,(nth bB i g).2.2.1,()) (aY bw ((nth bB i g).2.1,(nth bB i g).2.2.1,()) (aP bw (.int .i64) ((nth bB i g).2.1,(nth bB i g).2.2.1,()) j) j)=true then(mZ (.int .i64) (aP bw (.int .i64) ((nth bB i g).2.1,(nth bB i g).2.2.1,()) j) (aP bw (.int .i64) ((nth bB i g).2.1,(nth bB i g).2.2.1,()) (aY bw ((nth bB i g).2.1,(nth bB i g).2.2.1,()) (aP bw (.int .i64) ((nth bB i g).2.1,(nth bB i g).2.2.1,()) j) j)) (mZ (.int .i64) (bp ((aP bw (.int .i64) ((nth bB i g).2.1,(nth bB i g).2.2.1,()) j)+(1:Int))) (bp ((aP bw (.int .i64) ((nth bB i g).2.1,(nth bB i g).2.2.1,()) j)+(1:Int))) (some (.brk (i,h,g,((nth bB i g).2.1,(nth bB i g).2.2.1,()),aY bw ((nth bB i g).2.1,(nth bB i g).2.2.1,()) (bp ((aP bw (.int .i64) ((nth bB i g).2.1,(nth bB i g).2.2.1,()) j)+(1:Int))) (aY bw ((nth bB i g).2.1,(nth bB i g).2.2.1,()) (aP bw (.int .i64) ((nth bB i g).2.1,(nth bB i g).2.2.1,()) j) j),k))))) else none) else none) else none) else(if bl bw ((nth bB i g).2.1,(nth bB i g).2.2.1,()) ((nth bB i g).2.1,(nth bB i g).2.2.1,())=true then(if j.length+1≤aH then(if bT bw ((nth bB i g).2.1,(nth bB i g).2.2.1,()) (aY bw ((nth bB i g).2.1,(nth bB i g).2.2.1,()) (aP bw (.int .i64) ((nth bB i g).2.1,(nth bB i g).2.2.1,()) j) j)=true then(mZ (.int .i64) (aP bw (.int .i64) ((nth bB i g).2.1,(nth bB i g).2.2.1,()) j) (aP bw (.int .i64) ((nth bB i g).2.1,(nth bB i g).2.2.1,()) (aY bw ((nth bB i g).2.1,(nth bB i g).2.2.1,()) (aP bw (.int .i64) ((nth bB i g).2.1,(nth bB i g).2.2.1,()) j) j)) (mZ (.int .i64) (bp ((aP bw (.int .i64) ((nth bB i g).2.1,(nth bB i g).2.2.1,()) j) -(1:Int))) (bp ((aP bw (.int .i64) ((nth bB i g).2.1,(nth bB i g).2.2.1,()) j) -(1:Int))) (some (.brk (i,h,g,((nth bB i g).2.1,(nth bB i g).2.2.1,()),aY bw ((nth bB i g).2.1,(nth bB i g).2.2.1,()) (bp ((aP bw (.int .i64) ((nth bB i g).2.1,(nth bB i g).2.2.1,()) j) -(1:Int))) (aY bw ((nth bB i g).2.1,(nth bB i g).2.2.1,()) (aP bw (.int .i64) ((nth bB i g).2.1,(nth bB i g).2.2.1,()) j) j),k))))) else none) else none) else none)) fun⟨d,e,f,a,c,b⟩=>Option.bind (α:=Bool) (if(aP bw .bool a b)=true then(some (decide ((aP bw (.int .i64) a c)<(1:Int)))) else(some false)) fun v9=>if v9=true then(bX (some false)) else(rec7 (d,e,bp (f+1),c,b))) else none) else none) else(some (.brk ()))
def zS:Nat→Zad→Zl:=aL fun rec4 ⟨b,c,d,a⟩=>if List.isEmpty a=true then(aI (U:=Unit) (jS (Int.toNat (b.length:Int)+1) (b,(b.length:Int),0,c,d)) fun _v5=>some true) else uq a fun x10 l11=>(f59 x10.1).bind fun y12=>if decide ((0:Int)<(aP bw (.int .i64) y12 c)) then((f59 x10.1).bind fun y13=>if d.length+1≤aH then(rec4 (b,c,aY bw y13 true d,l11)) else none) else(rec4 (b,c,d,l11))
def zT:Nat→Ze×Zg×Zg×Zad→Zl:=aL fun rec2 ⟨f,g,b,c,d,e,a⟩=>if List.isEmpty a=true then(zS (List.length (aX b)+1) (c,d,e,aX b)) else uq a fun lb l15=>(f59 lb.1).bind fun y16=>if bl bw y16 (lb.1.1,lb.1.2.1,())=true then(if d.length+1≤aH then(if bT bw (lb.1.1,lb.1.2.1,()) (aY bw (lb.1.1,lb.1.2.1,()) (aP bw (.int .i64) (lb.1.1,lb.1.2.1,()) d) d)=true then(mZ (.int .i64) (aP bw (.int .i64) y16 d) (aP bw (.int .i64) y16 (aY bw (lb.1.1,lb.1.2.1,()) (aP bw (.int .i64) (lb.1.1,lb.1.2.1,()) d) d)) (mZ (.int .i64) (bp ((aP bw (.int .i64) y16 d)+(1:Int))) (bp ((aP bw (.int .i64) y16 d)+(1:Int))) (rec2 (f,g,b,c,aY bw (lb.1.1,lb.1.2.1,()) (bp ((aP bw (.int .i64) y16 d)+(1:Int))) (aY bw (lb.1.1,lb.1.2.1,()) (aP bw (.int .i64) (lb.1.1,lb.1.2.1,()) d) d),e,l15)))) else none) else none) else none
def GB(a0:Ze)(a1:Zg)(a2:Zg)(a3:Zo):Zl:=
 zT (List.length (aX a1)+1) (a0,a1,a2,a3,([]:List (rN×Int)),([]:List (rN×Bool)),aX a1)
def aik:SS:=⟨87,127,[(5,.mp 29),(6,.mp 30),tP 12 28,(51,.val (.slice 32 bB)),tI 52,tI 53],[(28,bV bw),(29,.map bw (.int .i64)),(30,.map bw .bool)],[]⟩
def ail:SS:=⟨87,127,[],[],[]⟩
def aim:SS:=⟨87,127,[(0,.iv (.cons (.val (.slice 8 (.int .i64))) (.cons (.val (.map aJ br)) (.cons (.val (.map aJ br)) (.cons (.dK (.aT .ptr)) .nil))))),(1,.val (.slice 32 bB)),(5,.mp 29),(6,.mp 30),(7,.func 59 .nil .nil),tP 19 35],[(29,.map bw (.int .i64)),(30,.map bw .bool),(35,.ky aJ br)],[]⟩
def ain:SS:=⟨87,127,[(1,.val (.slice 32 bB)),(5,.mp 29),(6,.mp 30),(7,.func 59 .nil .nil),tP 36 52],[(29,.map bw (.int .i64)),(30,.map bw .bool),(52,.ky aJ br)],[]⟩
def aio:SS:=⟨87,127,[(5,.mp 29),(6,.mp 30),(51,.val (.slice 32 bB)),tI 52,tI 53],[(29,.map bw (.int .i64)),(30,.map bw .bool)],[]⟩
def Y4:SS:=⟨87,127,[(4,vB)],[],[]⟩
def VG:aZ:=aG G [.tmp 4] 35 [.iv (.cons (.val (.slice 8 (.int .i64))) (.cons (.val (.map aJ br)) (.cons (.val (.map aJ br)) (.cons (.dK (.aT .ptr)) .nil)))),.val (.slice 32 bB)] [] 127 Y4 [] (.bq (u4 GB))
theorem VH:hS VG:=
 cO ⟨[(6,⟨[],[],[⟨[0],[],[],[],[]⟩],none,[],[.XE 29 (.two (.c 8 [.cC 0]) (.c 8 [.cC 1]))],[]⟩),hA 10 0,hA 11 0,(17,⟨[],[],[],none,[],[.XE 29 (.c 12 [])],[]⟩),(18,⟨[],[],[],none,[],[.XE 29 (.c 12 [])],[]⟩),hD 19 85 []],[(19,aik),(22,ail)],[],[(4,⟨aim,fun u1=>List.length u1.2.2.2.2.2.2+1⟩),(8,⟨ain,fun u3=>List.length u3.2.2.2+1⟩),(13,⟨aio,fun u6=>Int.toNat u6.2.1+1⟩)],[(1000006,6005007),(1000017,4003005),(1000018,4003005)],[]⟩ (hq x59 hz) aK Tryz.call35 Tryz.func35
end Go.Proofs.YtpmlkhjpbjnagaaGreat
