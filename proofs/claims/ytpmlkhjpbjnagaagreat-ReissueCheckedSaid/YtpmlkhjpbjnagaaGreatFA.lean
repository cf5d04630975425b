/- part -/
import Derived.Test.YtpmlkhjpbjnagaaGreatUV
noncomputable section
namespace Go.Proofs.YtpmlkhjpbjnagaaGreat
open Go.Ax
def M6(a0:bz)(a1:Zf)(a2:Int)(a3:Int)(a4:Int)(_a5:Zp):B8:=
 (ja a0 a1 a2 a3 a4).bind fun y1=>if !y1 then(some ([]:Zl)) else none
def Vh:aZ:=aF G [.tmp 12] 13 [.val fE,.val (.slice 8 (.int .i64)),vI,vI,vI,.val (.slice 32 bC)] [] 123 RR [] (.br (u6 M6))
theorem Vi:hS Vh:=
 cO (hR [hA 1 0,(4,⟨[],[],[],none,[(0,9999)],[],[]⟩)]) (hq pJ hz) aJ Tryz.call13 Tryz.func13
def f13(a0:bz)(a1:Zf)(a2:Int)(a3:Int)(a4:Int)(a5:Zp):B8:=
 Pe (oi a0 a1 a2 a3 a4 a5) (M6 a0 a1 a2 a3 a4 a5)
def c13:aZ:=aF G [.tmp 12] 13 [.val fE,.val (.slice 8 (.int .i64)),vI,vI,vI,.val (.slice 32 bC)] [] 123 RR [] (.br (u6 f13))
theorem x13:hS c13:=aZ.or RX Vi
def M7(a0:bz)(a1:Zf)(a2:Int)(a3:Int)(a4:Int):B8:=
 (fV a0 a1 a2 a3 a4).bind fun⟨a,d,e,f,g,h,i,j,k,b,c,n,l,m⟩=>if !a then(some ([]:Zl)) else((pI b c d e f g h i j k l m n).bind fun⟨o,_,_,_,_,_,_,_,_,_,_,_,_,_⟩=>some o)
def JH:SS:=⟨26,66,[(10,.val (.slice 48 bp))],[],[]⟩
def Vj:aZ:=aF G [.tmp 10] 15 [.val fE,.val (.slice 8 (.int .i64)),vI,vI,vI] [] 66 JH [] (.br (u5 M7))
theorem Vk:hS Vj:=
 cO (hR [hE 1 [cB 0 [] [(41,35),(45,42),(47,43),(82,44),(88,45),(89,46)]],hE 4 [cB 1 [(0,43),(1,35),(2,42),(3,45),(4,46),(5,44)] []]]) (hq pw (hq BL hz)) aJ Tryz.call15 Tryz.func15
def M8(a0:bz)(a1:Zf)(a2:Int)(a3:Int)(a4:Int):B8:=
 (ja a0 a1 a2 a3 a4).bind fun y1=>if !y1 then(some ([]:Zl)) else none
def Vl:aZ:=aF G [.tmp 10] 15 [.val fE,.val (.slice 8 (.int .i64)),vI,vI,vI] [] 66 JH [] (.br (u5 M8))
theorem Vm:hS Vl:=
 cO (hR [hA 1 0,(4,⟨[],[],[],none,[(0,9999)],[],[]⟩)]) (hq pJ hz) aJ Tryz.call15 Tryz.func15
def f15(a0:bz)(a1:Zf)(a2:Int)(a3:Int)(a4:Int):B8:=
 Pe (M7 a0 a1 a2 a3 a4) (M8 a0 a1 a2 a3 a4)
def c15:aZ:=aF G [.tmp 10] 15 [.val fE,.val (.slice 8 (.int .i64)),vI,vI,vI] [] 66 JH [] (.br (u5 f15))
theorem x15:hS c15:=aZ.or Vk Vm
def f65(a0:l7)(a1:l7):Zm:=
 Option.bind (α:=Bool) (if decide (a0.1=a1.1) then(if decide (a0.2.1=a1.2.1) then(some (decide (a0.2.2.1=a1.2.2.1))) else(some false)) else(some false)) fun v1=>some v1
def ahX:SS:=⟨24,64,[(4,vB)],[],[]⟩
def c65:aZ:=aF G [.tmp 4] 65 [.val bp,.val bp] [] 64 ahX [] (.br (u2 f65))
theorem x65:hS c65:=
 cO (hR [hD 1 4 []]) hz aJ Tryz.call65 Tryz.func65
def M9:Nat→Int×l7×l7→Zs:=aL fun rec6 ⟨a,b,c⟩=>if decide (a<(b.2.2.2.1.length:Int)) then(if 0≤a then(if a<(b.2.2.2.1.length:Int) then(if 0≤a then(if a<(c.2.2.2.1.length:Int) then(if !decide ((nth (.int .i64) b.2.2.2.1 a)=(nth (.int .i64) c.2.2.2.1 a)) then(bU (some false)) else(rec6 (bq (a+1),b,c))) else none) else none) else none) else none) else(some (.brk ()))
def f42(a0:l7)(a1:l7):Zm:=
 aI (U:=l7×l7) (Option.bind (α:=Bool) ((f65 a0 a1).bind fun y2=>if !y2 then(some true) else(some (!decide ((a0.2.2.2.1.length:Int)=(a1.2.2.2.1.length:Int))))) fun v3=>if v3=true then(bU (some false)) else(some (.brk (a0,a1)))) fun⟨a,b⟩=>aI (U:=Unit) (M9 iw (0,a,b)) fun _=>some true
def ahY:SS:=⟨37,77,[tP 2 18,tP 3 19],[(18,bV bp),(19,bV bp)],[]⟩
def ahZ:SS:=⟨37,77,[],[],[]⟩
def ah0:SS:=⟨37,77,[tP 2 18,tP 3 19,tI 5],[(18,bV bp),(19,bV bp)],[]⟩
def ah1:SS:=⟨37,77,[(4,vB)],[],[]⟩
def c42:aZ:=aF G [.tmp 4] 42 [.val bp,.val bp] [] 77 ah1 [] (.br (u2 f42))
theorem x42:hS c42:=
 cO ⟨[hD 1 18 [cA 0]],[(3,ahY),(8,ahZ)],[],[(4,⟨ah0,fun _=>iw⟩)],[],[]⟩ (hq x65 hz) aJ Tryz.call42 Tryz.func42
def Vn:Nat→Zl×Zl×Int→Zs:=aL fun amb ⟨b,c,a⟩=>if decide (a<(b.length:Int)) then(if 0≤a then(if a<(b.length:Int) then(if 0≤a then(if a<(c.length:Int) then((f42 (nth bp b a) (nth bp c a)).bind fun y4=>if !y4 then none else(amb (b,c,bq (a+1)))) else none) else none) else none) else none) else(some (.brk ()))
def f20(a0:Zl)(a1:Zl):Zm:=
 if !decide ((a0.length:Int)=(a1.length:Int)) then none else(aI (U:=Unit) (Vn iw (a0,a1,0)) fun _=>some true)
def ah2:SS:=⟨27,67,[],[],[]⟩
def ah3:SS:=⟨27,67,[(0,.val (.slice 48 bp)),(1,.val (.slice 48 bp)),tI 5],[],[]⟩
def ah4:SS:=⟨27,67,[(4,vB)],[],[]⟩
def c20:aZ:=aF G [.tmp 4] 20 [.val (.slice 48 bp),.val (.slice 48 bp)] [] 67 ah4 [] (.br (u2 f20))
theorem x20:hS c20:=
 cO ⟨[(2,⟨[],[],[],none,[(0,9999)],[],[]⟩),hA 6 0,(7,⟨[],[],[],none,[(0,9999)],[],[]⟩)],[(8,ah2)],[],[(4,⟨ah3,fun _=>iw⟩)],[],[]⟩ (hq x42 hz) aJ Tryz.call20 Tryz.func20
def Na(a0:bz)(a1:Int)(a2:Int)(a3:Int):B8:=
 (fV a0 ([]:Zf) a1 a2 a3).bind fun⟨a,d,e,f,g,h,i,j,k,b,c,n,l,m⟩=>if !a then(some ([]:Zl)) else((pI b c d e f g h i j k l m n).bind fun⟨o,_,_,_,_,_,_,_,_,_,_,_,_,_⟩=>some o)
def Vo:aZ:=aF G [.tmp 10] 15 [.val fE,.bn,vI,vI,vI] [] 66 JH [] (.br (u4 Na))
theorem Vp:hS Vo:=
 cO (hR [hE 1 [cB 0 [] [(41,35),(45,42),(47,43),(82,44),(88,45),(89,46)]],hE 4 [cB 1 [(0,43),(1,35),(2,42),(3,45),(4,46),(5,44)] []]]) (hq pw (hq BL hz)) aJ Tryz.call15 Tryz.func15
def Nb(a0:bz)(a1:Int)(a2:Int)(a3:Int):B8:=
 (ja a0 ([]:Zf) a1 a2 a3).bind fun y1=>if !y1 then(some ([]:Zl)) else none
def Vq:aZ:=aF G [.tmp 10] 15 [.val fE,.bn,vI,vI,vI] [] 66 JH [] (.br (u4 Nb))
theorem Vr:hS Vq:=
 cO (hR [hA 1 0,(4,⟨[],[],[],none,[(0,9999)],[],[]⟩)]) (hq pJ hz) aJ Tryz.call15 Tryz.func15
def Nc(a0:bz)(a1:Int)(a2:Int)(a3:Int):B8:=
 Pe (Na a0 a1 a2 a3) (Nb a0 a1 a2 a3)
def Vs:aZ:=aF G [.tmp 10] 15 [.val fE,.bn,vI,vI,vI] [] 66 JH [] (.br (u4 Nc))
theorem Vt:hS Vs:=aZ.or Vp Vr
def BN(_a0:Zf)(a1:Zg)(a2:Zg):B8:=
 (DH a1 a2).bind fun y1=>some y1
def Y2:SS:=⟨12,52,[(2,.val (.slice 48 bp))],[],[]⟩
def Vu:aZ:=aF G [.tmp 2] 25 [.ir (.cons (.val (.slice 8 (.int .i64))) (.cons (.val (.map aK bp)) (.cons (.val (.map aK bp)) (.cons (.dH (.aT .ptr)) .nil))))] [] 52 Y2 [] (.br (u3 BN))
theorem Vv:hS Vu:=
 cO (hR [hA 1 0]) (hq Pq hz) aJ Tryz.call25 Tryz.func25
def BO(_a0:Zf)(a1:Zg)(a2:Zg):B8:=
 (DH a2 a1).bind fun y1=>some y1
def Vw:aZ:=aF G [.tmp 2] 23 [.ir (.cons (.val (.slice 8 (.int .i64))) (.cons (.val (.map aK bp)) (.cons (.val (.map aK bp)) (.cons (.dH (.aT .ptr)) .nil))))] [] 52 Y2 [] (.br (u3 BO))
theorem Vx:hS Vw:=
 cO (hR [hA 1 0]) (hq Pq hz) aJ Tryz.call23 Tryz.func23
def zA:Nat→Zl×Zl×Int×Int×ZD→Option (cK (Zl×ZD) ZD):=aL fun amb ⟨e,c,b,a,d⟩=>if decide (a<b) then(if 0≤a then(if a<(c.length:Int) then((f24 (2:Int) (nth bp c a)).bind fun y4=>(f52 (nth bp c a)).bind fun y5=>if d.length+1≤aH then(amb (e,c,b,bq (a+1),aX bC y4 (y5,false,()) d)) else none) else none) else none) else(some (.brk (e,d)))
def zB:Nat→Zl×Int×Int×ZD→Option (cK ZD ZD):=aL fun rec8 ⟨c,b,a,d⟩=>if decide (a<b) then(if 0≤a then(if a<(c.length:Int) then((f24 (1:Int) (nth bp c a)).bind fun y9=>(f52 (nth bp c a)).bind fun y10=>if d.length+1≤aH then(rec8 (c,b,bq (a+1),aX bC y9 (y10,true,()) d)) else none) else none) else none) else(some (.brk d))
def BP(a0:Zl)(a1:Zl):Option ZD:=
 aI (U:=Zl×ZD) (zA (Int.toNat (a0.length:Int)+1) (a1,a0,(a0.length:Int),0,([]:ZD))) fun⟨a,b⟩=>aI (U:=ZD) (zB (Int.toNat (a.length:Int)+1) (a,(a.length:Int),0,b)) fun v6=>some v6
def ah5:SS:=⟨38,78,YA,[(26,.map bC dG)],[]⟩
def ah6:SS:=⟨38,78,[(5,.mp 26)],[(26,.map bC dG)],[]⟩
def ah7:SS:=⟨38,78,YB,[(26,.map bC dG)],[]⟩
def ah8:SS:=⟨38,78,YD,[(26,.map bC dG)],[]⟩
def ah9:SS:=⟨38,78,[(4,.mp 26)],[(26,.map bC dG)],[]⟩
def Vy:aZ:=aF G [.tmp 4] 58 [.val (.slice 48 bp),.val (.slice 48 bp)] [] 78 ah9 [26] (.br (u2 BP))
theorem Vz:hS Vy:=
 cO ⟨[hE 5 [cA 0,cA 1],hE 10 [cA 0,cA 1]],[(7,ah5),(12,ah6)],[],[(3,⟨ah7,fun u2=>Int.toNat u2.2.2.1+1⟩),(8,⟨ah8,fun u7=>Int.toNat u7.2.1+1⟩)],[],[]⟩ (hq x24 (hq XS hz)) aJ Tryz.call58 Tryz.func58
def zC:Nat→Zp×Int×Int×ZD→Zs:=aL fun rec6 ⟨c,b,a,d⟩=>if decide (a<b) then(if 0≤a then(if a<(c.length:Int) then(if !(bT bC (nth bC c a) d) then(bU (some false)) else(rec6 (c,b,bq (a+1),iU bC (nth bC c a) d))) else none) else none) else(some (.brk ()))
def pK(a0:Zf)(a1:Zg)(a2:Zg)(a3:Zp):Zm:=
 (BN a0 a1 a2).bind fun y1=>(BO a0 a1 a2).bind fun y2=>(BP y1 y2).bind fun y3=>if !decide ((a3.length:Int)=(y3.length:Int)) then(some false) else(aI (U:=Unit) (zC (Int.toNat (a3.length:Int)+1) (a3,(a3.length:Int),0,y3)) fun _=>some true)
def aia:SS:=⟨37,77,[],[],[]⟩
def aib:SS:=⟨37,77,[(5,.mp 30),(20,.val (.slice 32 bC)),tI 21,tI 22],[(30,.map bC dG)],[]⟩
def aic:SS:=⟨37,77,[(4,vB)],[],[]⟩
def VA:aZ:=aF G [.tmp 4] 34 [.ir (.cons (.val (.slice 8 (.int .i64))) (.cons (.val (.map aK bp)) (.cons (.val (.map aK bp)) (.cons (.dH (.aT .ptr)) .nil)))),.val (.slice 32 bC)] [] 77 aic [] (.br (u4 pK))
theorem Gr:hS VA:=
 cO ⟨[hE 1 [cA 0,cA 1,cB 2 [] [(26,30)]]],[(12,aia)],[],[(5,⟨aib,fun u5=>Int.toNat u5.2.1+1⟩)],[],[]⟩ (hq Vv (hq Vx (hq Vz hz))) aJ Tryz.call34 Tryz.func34
def f59(a0:cM):Option rz:=
 some (a0.1,a0.2.1,())
def aid:SS:=⟨8,48,[tP 2 18],[(18,bV bw)],[]⟩
def c59:aZ:=aF G [.cell 2 155] 59 [.val aK] [] 48 aid [] (.br (u1 f59))
theorem x59:hS c59:=
 cO (hR []) hz aJ Tryz.call59 Tryz.func59
def jP:Nat→Zp×Int×Int×List (rz×Int)×List (rz×Bool)→Zs:=aL fun rec7 ⟨i,h,g,j,k⟩=>if decide (g<h) then(if 0≤g then(if g<(i.length:Int) then(aI (U:=Zp×Int×Int×rz×List (rz×Int)×List (rz×Bool)) (if decide ((nth bC i g).1=(1:Int)) then(if bl bw ((nth bC i g).2.1,(nth bC i g).2.2.1,()) ((nth bC i g).2.1,(nth bC i g).2.2.1,())=true then(if j.length+1≤aH then(if bT bw ((nth bC i g).2.1,(nth bC i g).2.2.1,()) (aX bw ((nth bC i g).2.1,(nth bC i g).2.2.1,()) (aQ bw (.int .i64) ((nth bC i g).2.1,(nth bC i g).2.2.1,()) j) j)=true then(mN (.int .i64) (aQ bw (.int .i64) ((nth bC i g).2.1,(nth bC i g).2.2.1,()) j) (aQ bw (.int .i64) ((nth bC i g).2.1,(nth bC i g).2.2.1,()) (aX bw ((nth bC i g).2.1,(nth bC i g).2.2.1,()) (aQ bw (.int .i64) ((nth bC i g).2.1,(nth bC i g).2.2.1,()) j) j)) (mN (.int .i64) (bq ((aQ bw (.int .i64) ((nth bC i g).2.1,(nth bC i g).2.2.1,()) j)+(1:Int))) (bq ((aQ bw (.int .i64) ((nth bC i g).2.1,(nth bC i g).2.2.1,()) j)+(1:Int))) (some (.brk (i,h,g,((nth bC i g).2.1,(nth bC i g).2.2.1,()),aX bw ((nth bC i g).2.1,(nth bC i g).2.2.1,()) (bq ((aQ bw (.int .i64) ((nth bC i g).2.1,(nth bC i g).2.2.1,()) j)+(1:Int))) (aX bw ((nth bC i g).2.1,(nth bC i g).2.2.1,()) (aQ bw (.int .i64) ((nth bC i g).2.1,(nth bC i g).2.2.1,()) j) j),k))))) else none) else none) else none) else(if bl bw ((nth bC i g).2.1,(nth bC i g).2.2.1,()) ((nth bC i g).2.1,(nth bC i g).2.2.1,())=true then(if j.length+1≤aH then(if bT bw ((nth bC i g).2.1,(nth bC i g).2.2.1,()) (aX bw ((nth bC i g).2.1,(nth bC i g).2.2.1,()) (aQ bw (.int .i64) ((nth bC i g).2.1,(nth bC i g).2.2.1,()) j) j)=true then(mN (.int .i64) (aQ bw (.int .i64) ((nth bC i g).2.1,(nth bC i g).2.2.1,()) j) (aQ bw (.int .i64) ((nth bC i g).2.1,(nth bC i g).2.2.1,()) (aX bw ((nth bC i g).2.1,(nth bC i g).2.2.1,()) (aQ bw (.int .i64) ((nth bC i g).2.1,(nth bC i g).2.2.1,()) j) j)) (mN (.int .i64) (bq ((aQ bw (.int .i64) ((nth bC i g).2.1,(nth bC i g).2.2.1,()) j) -(1:Int))) (bq ((aQ bw (.int .i64) ((nth bC i g).2.1,(nth bC i g).2.2.1,()) j) -(1:Int))) (some (.brk (i,h,g,((nth bC i g).2.1,(nth bC i g).2.2.1,()),aX bw ((nth bC i g).2.1,(nth bC i g).2.2.1,()) (bq ((aQ bw (.int .i64) ((nth bC i g).2.1,(nth bC i g).2.2.1,()) j) -(1:Int))) (aX bw ((nth bC i g).2.1,(nth bC i g).2.2.1,()) (aQ bw (.int .i64) ((nth bC i g).2.1,(nth bC i g).2.2.1,()) j) j),k))))) else none) else none) else none)) fun⟨d,e,f,a,c,b⟩=>Option.bind (α:=Bool) (if(aQ bw .bool a b)=true then(some (decide ((aQ bw (.int .i64) a c)<(1:Int)))) else(some false)) fun v9=>if v9=true then(bU (some false)) else(rec7 (d,e,bq (f+1),c,b))) else none) else none) else(some (.brk ()))
def zD:Nat→Zae→Zm:=aL fun rec4 ⟨b,c,d,a⟩=>if List.isEmpty a=true then(aI (U:=Unit) (jP (Int.toNat (b.length:Int)+1) (b,(b.length:Int),0,c,d)) fun _=>some true) else tY a fun Wo l11=>(f59 Wo.1).bind fun y12=>if decide ((0:Int)<(aQ bw (.int .i64) y12 c)) then((f59 Wo.1).bind fun y13=>if d.length+1≤aH then(rec4 (b,c,aX bw y13 true d,l11)) else none) else(rec4 (b,c,d,l11))
def zG:Nat→Zf×Zg×Zg×Zae→Zm:=aL fun rec2 ⟨f,g,b,c,d,e,a⟩=>if List.isEmpty a=true then(zD (List.length (aY b)+1) (c,d,e,aY b)) else tY a fun ku l15=>(f59 ku.1).bind fun y16=>if bl bw y16 (ku.1.1,ku.1.2.1,())=true then(if d.length+1≤aH then(if bT bw (ku.1.1,ku.1.2.1,()) (aX bw (ku.1.1,ku.1.2.1,()) (aQ bw (.int .i64) (ku.1.1,ku.1.2.1,()) d) d)=true then(mN (.int .i64) (aQ bw (.int .i64) y16 d) (aQ bw (.int .i64) y16 (aX bw (ku.1.1,ku.1.2.1,()) (aQ bw (.int .i64) (ku.1.1,ku.1.2.1,()) d) d)) (mN (.int .i64) (bq ((aQ bw (.int .i64) y16 d)+(1:Int))) (bq ((aQ bw (.int .i64) y16 d)+(1:Int))) (rec2 (f,g,b,c,aX bw (ku.1.1,ku.1.2.1,()) (bq ((aQ bw (.int .i64) y16 d)+(1:Int))) (aX bw (ku.1.1,ku.1.2.1,()) (aQ bw (.int .i64) (ku.1.1,ku.1.2.1,()) d) d),e,l15)))) else none) else none) else none
def Gs(a0:Zf)(a1:Zg)(a2:Zg)(a3:Zp):Zm:=
 zG (List.length (aY a1)+1) (a0,a1,a2,a3,([]:List (rz×Int)),([]:List (rz×Bool)),aY a1)
def aie:SS:=⟨87,127,[(5,.mp 29),(6,.mp 30),tP 12 28,(51,.val (.slice 32 bC)),tI 52,tI 53],[(28,bV bw),(29,.map bw (.int .i64)),(30,.map bw .bool)],[]⟩
def aif:SS:=⟨87,127,[],[],[]⟩
def aih:SS:=⟨87,127,[(0,.ir (.cons (.val (.slice 8 (.int .i64))) (.cons (.val (.map aK bp)) (.cons (.val (.map aK bp)) (.cons (.dH (.aT .ptr)) .nil))))),(1,.val (.slice 32 bC)),(5,.mp 29),(6,.mp 30),(7,.func 59 .nil .nil),tP 19 35],[(29,.map bw (.int .i64)),(30,.map bw .bool),(35,.kq aK bp)],[]⟩
def aii:SS:=⟨87,127,[(1,.val (.slice 32 bC)),(5,.mp 29),(6,.mp 30),(7,.func 59 .nil .nil),tP 36 52],[(29,.map bw (.int .i64)),(30,.map bw .bool),(52,.kq aK bp)],[]⟩
def aij:SS:=⟨87,127,[(5,.mp 29),(6,.mp 30),(51,.val (.slice 32 bC)),tI 52,tI 53],[(29,.map bw (.int .i64)),(30,.map bw .bool)],[]⟩
def Y3:SS:=⟨87,127,[(4,vB)],[],[]⟩
def VB:aZ:=aF G [.tmp 4] 35 [.ir (.cons (.val (.slice 8 (.int .i64))) (.cons (.val (.map aK bp)) (.cons (.val (.map aK bp)) (.cons (.dH (.aT .ptr)) .nil)))),.val (.slice 32 bC)] [] 127 Y3 [] (.br (u4 Gs))
theorem VD:hS VB:=
 cO ⟨[(6,⟨[],[],[⟨[0],[],[],[],[]⟩],none,[],[.XC 29 (.two (.c 8 [.cw 0]) (.c 8 [.cw 1]))],[]⟩),hA 10 0,hA 11 0,(17,⟨[],[],[],none,[],[.XC 29 (.c 12 [])],[]⟩),(18,⟨[],[],[],none,[],[.XC 29 (.c 12 [])],[]⟩),hD 19 85 []],[(19,aie),(22,aif)],[],[(4,⟨aih,fun u1=>List.length u1.2.2.2.2.2.2+1⟩),(8,⟨aii,fun u3=>List.length u3.2.2.2+1⟩),(13,⟨aij,fun u6=>Int.toNat u6.2.1+1⟩)],[(1000006,6005007),(1000017,4003005),(1000018,4003005)],[]⟩ (hq x59 hz) aJ Tryz.call35 Tryz.func35
end Go.Proofs.YtpmlkhjpbjnagaaGreat
