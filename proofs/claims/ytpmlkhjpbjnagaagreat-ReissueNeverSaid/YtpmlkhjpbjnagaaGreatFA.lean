/- part -/
import Derived.Test.YtpmlkhjpbjnagaaGreatUV
noncomputable section
namespace Go.Proofs.YtpmlkhjpbjnagaaGreat
open Go.Ax
def NC(a0:bz)(a1:Ze)(a2:Int)(a3:Int)(a4:Int)(_a5:Zp):Ct:=
 (iP a0 a1 a2 a3 a4).bind fun y1=>if !y1 then(some ([]:Zl)) else none
def VL:bh:=aF G [.tmp 12] 13 [.val fI,.val (.slice 8 (.int .i64)),vI,vI,vI,.val (.slice 32 bD)] [] 123 Sw [] (.br (u6 NC))
theorem VM:hS VL:=
 cO (hR [hA 1 0,(4,⟨[],[],[],none,[(0,9999)],[],[]⟩)]) (hq qb hz) aJ Tryz.call13 Tryz.func13
def f13(a0:bz)(a1:Ze)(a2:Int)(a3:Int)(a4:Int)(a5:Zp):Ct:=
 PO (oK a0 a1 a2 a3 a4 a5) (NC a0 a1 a2 a3 a4 a5)
def c13:bh:=aF G [.tmp 12] 13 [.val fI,.val (.slice 8 (.int .i64)),vI,vI,vI,.val (.slice 32 bD)] [] 123 Sw [] (.br (u6 f13))
theorem x13:hS c13:=bh.or SC VM
def GO(a0:bz)(a1:Ze)(a2:Int)(a3:Int)(a4:Int):Ct:=
 (fb a0 a1 a2 a3 a4).bind fun⟨a,d,e,f,g,h,i,j,k,b,c,n,l,m⟩=>if !a then(some ([]:Zl)) else((nK b c d e f g h i j k l m n).bind fun⟨o,_,_,_,_,_,_,_,_,_,_,_,_,_⟩=>some o)
def J5:SS:=⟨26,66,[(10,.val (.slice 48 bp))],[],[]⟩
def VN:bh:=aF G [.tmp 10] 15 [.val fI,.val (.slice 8 (.int .i64)),vI,vI,vI] [] 66 J5 [] (.br (u5 GO))
theorem VO:hS VN:=
 cO (hR [hE 1 [cB 0 [] [(41,35),(45,42),(47,43),(82,44),(88,45),(89,46)]],hE 4 [cB 1 [(0,43),(1,35),(2,42),(3,45),(4,46),(5,44)] []]]) (hq pQ (hq B3 hz)) aJ Tryz.call15 Tryz.func15
def GP(a0:bz)(a1:Ze)(a2:Int)(a3:Int)(a4:Int):Ct:=
 (iP a0 a1 a2 a3 a4).bind fun y1=>if !y1 then(some ([]:Zl)) else none
def VQ:bh:=aF G [.tmp 10] 15 [.val fI,.val (.slice 8 (.int .i64)),vI,vI,vI] [] 66 J5 [] (.br (u5 GP))
theorem VT:hS VQ:=
 cO (hR [hA 1 0,(4,⟨[],[],[],none,[(0,9999)],[],[]⟩)]) (hq qb hz) aJ Tryz.call15 Tryz.func15
def f15(a0:bz)(a1:Ze)(a2:Int)(a3:Int)(a4:Int):Ct:=
 PO (GO a0 a1 a2 a3 a4) (GP a0 a1 a2 a3 a4)
def c15:bh:=aF G [.tmp 10] 15 [.val fI,.val (.slice 8 (.int .i64)),vI,vI,vI] [] 66 J5 [] (.br (u5 f15))
theorem x15:hS c15:=bh.or VO VT
def f65(a0:mq)(a1:mq):Zm:=
 Option.bind (α:=Bool) (if decide (a0.1=a1.1) then(if decide (a0.2.1=a1.2.1) then(some (decide (a0.2.2.1=a1.2.2.1))) else(some false)) else(some false)) fun v1=>some v1
def aip:SS:=⟨24,64,[(4,vB)],[],[]⟩
def c65:bh:=aF G [.tmp 4] 65 [.val bp,.val bp] [] 64 aip [] (.br (u2 f65))
theorem x65:hS c65:=
 cO (hR [hD 1 4 []]) hz aJ Tryz.call65 Tryz.func65
def ND:Nat→Int×mq×mq→Zs:=aL fun rec6 ⟨a,b,c⟩=>if decide (a<(b.2.2.2.1.length:Int)) then(if 0≤a then(if a<(b.2.2.2.1.length:Int) then(if 0≤a then(if a<(c.2.2.2.1.length:Int) then(if !decide ((nth (.int .i64) b.2.2.2.1 a)=(nth (.int .i64) c.2.2.2.1 a)) then(bU (some false)) else(rec6 (bq (a+1),b,c))) else none) else none) else none) else none) else(some (.brk ()))
def f42(a0:mq)(a1:mq):Zm:=
 aI (U:=mq×mq) (Option.bind (α:=Bool) ((f65 a0 a1).bind fun y2=>if !y2 then(some true) else(some (!decide ((a0.2.2.2.1.length:Int)=(a1.2.2.2.1.length:Int))))) fun v3=>if v3=true then(bU (some false)) else(some (.brk (a0,a1)))) fun⟨a,b⟩=>aI (U:=Unit) (ND iB (0,a,b)) fun _v4=>some true
def aiq:SS:=⟨37,77,[tP 2 18,tP 3 19],[(18,bV bp),(19,bV bp)],[]⟩
def air:SS:=⟨37,77,[],[],[]⟩
def ais:SS:=⟨37,77,[tP 2 18,tP 3 19,tI 5],[(18,bV bp),(19,bV bp)],[]⟩
def ait:SS:=⟨37,77,[(4,vB)],[],[]⟩
def c42:bh:=aF G [.tmp 4] 42 [.val bp,.val bp] [] 77 ait [] (.br (u2 f42))
theorem x42:hS c42:=
 cO ⟨[hD 1 18 [cA 0]],[(3,aiq),(8,air)],[],[(4,⟨ais,fun _=>iB⟩)],[],[]⟩ (hq x65 hz) aJ Tryz.call42 Tryz.func42
def VU:Nat→Zl×Zl×Int→Zs:=aL fun amC ⟨b,c,a⟩=>if decide (a<(b.length:Int)) then(if 0≤a then(if a<(b.length:Int) then(if 0≤a then(if a<(c.length:Int) then((f42 (nth bp b a) (nth bp c a)).bind fun y4=>if !y4 then none else(amC (b,c,bq (a+1)))) else none) else none) else none) else none) else(some (.brk ()))
def f20(a0:Zl)(a1:Zl):Zm:=
 if !decide ((a0.length:Int)=(a1.length:Int)) then none else(aI (U:=Unit) (VU iB (a0,a1,0)) fun _v1=>some true)
def aiu:SS:=⟨27,67,[],[],[]⟩
def aiv:SS:=⟨27,67,[(0,.val (.slice 48 bp)),(1,.val (.slice 48 bp)),tI 5],[],[]⟩
def aiw:SS:=⟨27,67,[(4,vB)],[],[]⟩
def c20:bh:=aF G [.tmp 4] 20 [.val (.slice 48 bp),.val (.slice 48 bp)] [] 67 aiw [] (.br (u2 f20))
theorem x20:hS c20:=
 cO ⟨[(2,⟨[],[],[],none,[(0,9999)],[],[]⟩),hA 6 0,(7,⟨[],[],[],none,[(0,9999)],[],[]⟩)],[(8,aiu)],[],[(4,⟨aiv,fun _=>iB⟩)],[],[]⟩ (hq x42 hz) aJ Tryz.call20 Tryz.func20
def NF(a0:bz)(a1:Int)(a2:Int)(a3:Int):Ct:=
 (fb a0 ([]:Ze) a1 a2 a3).bind fun⟨a,d,e,f,g,h,i,j,k,b,c,n,l,m⟩=>if !a then(some ([]:Zl)) else((nK b c d e f g h i j k l m n).bind fun⟨o,_,_,_,_,_,_,_,_,_,_,_,_,_⟩=>some o)
def VV:bh:=aF G [.tmp 10] 15 [.val fI,.bn,vI,vI,vI] [] 66 J5 [] (.br (u4 NF))
theorem VW:hS VV:=
 cO (hR [hE 1 [cB 0 [] [(41,35),(45,42),(47,43),(82,44),(88,45),(89,46)]],hE 4 [cB 1 [(0,43),(1,35),(2,42),(3,45),(4,46),(5,44)] []]]) (hq pQ (hq B3 hz)) aJ Tryz.call15 Tryz.func15
def NG(a0:bz)(a1:Int)(a2:Int)(a3:Int):Ct:=
 (iP a0 ([]:Ze) a1 a2 a3).bind fun y1=>if !y1 then(some ([]:Zl)) else none
def VX:bh:=aF G [.tmp 10] 15 [.val fI,.bn,vI,vI,vI] [] 66 J5 [] (.br (u4 NG))
theorem VY:hS VX:=
 cO (hR [hA 1 0,(4,⟨[],[],[],none,[(0,9999)],[],[]⟩)]) (hq qb hz) aJ Tryz.call15 Tryz.func15
def NH(a0:bz)(a1:Int)(a2:Int)(a3:Int):Ct:=
 PO (NF a0 a1 a2 a3) (NG a0 a1 a2 a3)
def VZ:bh:=aF G [.tmp 10] 15 [.val fI,.bn,vI,vI,vI] [] 66 J5 [] (.br (u4 NH))
theorem V0:hS VZ:=bh.or VW VY
def B5(_a0:Ze)(a1:Zg)(a2:Zg):Ct:=
 (D5 a1 a2).bind fun y1=>some y1
def aai:SS:=⟨12,52,[(2,.val (.slice 48 bp))],[],[]⟩
def V1:bh:=aF G [.tmp 2] 25 [.iy (.cons (.val (.slice 8 (.int .i64))) (.cons (.val (.map aK bp)) (.cons (.val (.map aK bp)) (.cons (.dK (.aT .ptr)) .nil))))] [] 52 aai [] (.br (u3 B5))
theorem V2:hS V1:=
 cO (hR [hA 1 0]) (hq P0 hz) aJ Tryz.call25 Tryz.func25
def B6(_a0:Ze)(a1:Zg)(a2:Zg):Ct:=
 (D5 a2 a1).bind fun y1=>some y1
def V3:bh:=aF G [.tmp 2] 23 [.iy (.cons (.val (.slice 8 (.int .i64))) (.cons (.val (.map aK bp)) (.cons (.val (.map aK bp)) (.cons (.dK (.aT .ptr)) .nil))))] [] 52 aai [] (.br (u3 B6))
theorem V4:hS V3:=
 cO (hR [hA 1 0]) (hq P0 hz) aJ Tryz.call23 Tryz.func23
def zZ:Nat→Zl×Zl×Int×Int×ZD→Option (cL (Zl×ZD) ZD):=aL fun amC ⟨e,c,b,a,d⟩=>if decide (a<b) then(if 0≤a then(if a<(c.length:Int) then((f24 (2:Int) (nth bp c a)).bind fun y4=>(f52 (nth bp c a)).bind fun y5=>if d.length+1≤aH then(amC (e,c,b,bq (a+1),aZ bD y4 (y5,false,()) d)) else none) else none) else none) else(some (.brk (e,d)))
def z8:Nat→Zl×Int×Int×ZD→Option (cL ZD ZD):=aL fun rec8 ⟨c,b,a,d⟩=>if decide (a<b) then(if 0≤a then(if a<(c.length:Int) then((f24 (1:Int) (nth bp c a)).bind fun y9=>(f52 (nth bp c a)).bind fun y10=>if d.length+1≤aH then(rec8 (c,b,bq (a+1),aZ bD y9 (y10,true,()) d)) else none) else none) else none) else(some (.brk d))
def B7(a0:Zl)(a1:Zl):Option ZD:=
 aI (U:=Zl×ZD) (zZ (Int.toNat (a0.length:Int)+1) (a1,a0,(a0.length:Int),0,([]:ZD))) fun⟨a,b⟩=>aI (U:=ZD) (z8 (Int.toNat (a.length:Int)+1) (a,(a.length:Int),0,b)) fun v6=>some v6
def aix:SS:=⟨38,78,Y2,[(26,.map bD dJ)],[]⟩
def aiy:SS:=⟨38,78,[(5,.mp 26)],[(26,.map bD dJ)],[]⟩
def aiz:SS:=⟨38,78,Y3,[(26,.map bD dJ)],[]⟩
def aiA:SS:=⟨38,78,Y4,[(26,.map bD dJ)],[]⟩
def aiB:SS:=⟨38,78,[(4,.mp 26)],[(26,.map bD dJ)],[]⟩
def V5:bh:=aF G [.tmp 4] 58 [.val (.slice 48 bp),.val (.slice 48 bp)] [] 78 aiB [26] (.br (u2 B7))
theorem V6:hS V5:=
 cO ⟨[hE 5 [cA 0,cA 1],hE 10 [cA 0,cA 1]],[(7,aix),(12,aiy)],[],[(3,⟨aiz,fun u2=>Int.toNat u2.2.2.1+1⟩),(8,⟨aiA,fun u7=>Int.toNat u7.2.1+1⟩)],[],[]⟩ (hq x24 (hq Ym hz)) aJ Tryz.call58 Tryz.func58
def Aa:Nat→Zp×Int×Int×ZD→Zs:=aL fun rec6 ⟨c,b,a,d⟩=>if decide (a<b) then(if 0≤a then(if a<(c.length:Int) then(if !(bT bD (nth bD c a) d) then(bU (some false)) else(rec6 (c,b,bq (a+1),iZ bD (nth bD c a) d))) else none) else none) else(some (.brk ()))
def qc(a0:Ze)(a1:Zg)(a2:Zg)(a3:Zp):Zm:=
 (B5 a0 a1 a2).bind fun y1=>(B6 a0 a1 a2).bind fun y2=>(B7 y1 y2).bind fun y3=>if !decide ((a3.length:Int)=(y3.length:Int)) then(some false) else(aI (U:=Unit) (Aa (Int.toNat (a3.length:Int)+1) (a3,(a3.length:Int),0,y3)) fun _v4=>some true)
def aiC:SS:=⟨37,77,[],[],[]⟩
def aiD:SS:=⟨37,77,[(5,.mp 30),(20,.val (.slice 32 bD)),tI 21,tI 22],[(30,.map bD dJ)],[]⟩
def aiE:SS:=⟨37,77,[(4,vB)],[],[]⟩
def V7:bh:=aF G [.tmp 4] 34 [.iy (.cons (.val (.slice 8 (.int .i64))) (.cons (.val (.map aK bp)) (.cons (.val (.map aK bp)) (.cons (.dK (.aT .ptr)) .nil)))),.val (.slice 32 bD)] [] 77 aiE [] (.br (u4 qc))
theorem GQ:hS V7:=
 cO ⟨[hE 1 [cA 0,cA 1,cB 2 [] [(26,30)]]],[(12,aiC)],[],[(5,⟨aiD,fun u5=>Int.toNat u5.2.1+1⟩)],[],[]⟩ (hq V2 (hq V4 (hq V6 hz))) aJ Tryz.call34 Tryz.func34
def f59(a0:cN):Option rQ:=
 some (a0.1,a0.2.1,())
def aiF:SS:=⟨8,48,[tP 2 18],[(18,bV bw)],[]⟩
def c59:bh:=aF G [.cell 2 155] 59 [.val aK] [] 48 aiF [] (.br (u1 f59))
theorem x59:hS c59:=
 cO (hR []) hz aJ Tryz.call59 Tryz.func59
def jV:Nat→Zp×Int×Int×List (rQ×Int)×List (rQ×Bool)→Zs:=aL fun rec7 ⟨i,h,g,j,k⟩=>if decide (g<h) then(if 0≤g then(if g<(i.length:Int) then(aI (U:=Zp×Int×Int×rQ×List (rQ×Int)×List (rQ×Bool)) (if decide ((nth bD i g).1=(1:Int)) then(if bl bw ((nth bD i g).2.1,(nth bD i g).2.2.1,()) ((nth bD i g).2.1,(nth bD i g).2.2.1,())=true then(if j.length+1≤aH then(if bT bw ((nth bD i g).2.1,(nth bD i g).2.2.1,()) (aZ bw ((nth bD i g).2.1,(nth bD i g).2.2.1,()) (aP bw (.int .i64) ((nth bD i g).2.1,(nth bD i g).2.2.1,()) j) j)=true then(nf (.int .i64) (aP bw (.int .i64) ((nth bD i g).2.1,(nth bD i g).2.2.1,()) j) (aP bw (.int .i64) ((nth bD i g).2.1,(nth bD i g).2.2.1,()) (aZ bw ((nth bD i g).2.1,(nth bD i g).2.2.1,()) (aP bw (.int .i64) ((nth bD i g).2.1,(nth bD i g).2.2.1,()) j) j)) (nf (.int .i64) (bq ((aP bw (.int .i64) ((nth bD i g).2.1,(nth bD i g).2.2.1,()) j)+(1:Int))) (bq ((aP bw (.int .i64) ((nth bD i g).2.1,(nth bD i g).2.2.1,()) j)+(1:Int))) (some (.brk (i,h,g,((nth bD i g).2.1,(nth bD i g).2.2.1,()),aZ bw ((nth bD i g).2.1,(nth bD i g).2.2.1,()) (bq ((aP bw (.int .i64) ((nth bD i g).2.1,(nth bD i g).2.2.1,()) j)+(1:Int))) (aZ bw ((nth bD i g).2.1,(nth bD i g).2.2.1,()) (aP bw (.int .i64) ((nth bD i g).2.1,(nth bD i g).2.2.1,()) j) j),k))))) else none) else none) else none) else(if bl bw ((nth bD i g).2.1,(nth bD i g).2.2.1,()) ((nth bD i g).2.1,(nth bD i g).2.2.1,())=true then(if j.length+1≤aH then(if bT bw ((nth bD i g).2.1,(nth bD i g).2.2.1,()) (aZ bw ((nth bD i g).2.1,(nth bD i g).2.2.1,()) (aP bw (.int .i64) ((nth bD i g).2.1,(nth bD i g).2.2.1,()) j) j)=true then(nf (.int .i64) (aP bw (.int .i64) ((nth bD i g).2.1,(nth bD i g).2.2.1,()) j) (aP bw (.int .i64) ((nth bD i g).2.1,(nth bD i g).2.2.1,()) (aZ bw ((nth bD i g).2.1,(nth bD i g).2.2.1,()) (aP bw (.int .i64) ((nth bD i g).2.1,(nth bD i g).2.2.1,()) j) j)) (nf (.int .i64) (bq ((aP bw (.int .i64) ((nth bD i g).2.1,(nth bD i g).2.2.1,()) j) -(1:Int))) (bq ((aP bw (.int .i64) ((nth bD i g).2.1,(nth bD i g).2.2.1,()) j) -(1:Int))) (some (.brk (i,h,g,((nth bD i g).2.1,(nth bD i g).2.2.1,()),aZ bw ((nth bD i g).2.1,(nth bD i g).2.2.1,()) (bq ((aP bw (.int .i64) ((nth bD i g).2.1,(nth bD i g).2.2.1,()) j) -(1:Int))) (aZ bw ((nth bD i g).2.1,(nth bD i g).2.2.1,()) (aP bw (.int .i64) ((nth bD i g).2.1,(nth bD i g).2.2.1,()) j) j),k))))) else none) else none) else none)) fun⟨d,e,f,a,c,b⟩=>Option.bind (α:=Bool) (if(aP bw .bool a b)=true then(some (decide ((aP bw (.int .i64) a c)<(1:Int)))) else(some false)) fun v9=>if v9=true then(bU (some false)) else(rec7 (d,e,bq (f+1),c,b))) else none) else none) else(some (.brk ()))
def Ab:Nat→Zae→Zm:=aL fun rec4 ⟨b,c,d,a⟩=>if List.isEmpty a=true then(aI (U:=Unit) (jV (Int.toNat (b.length:Int)+1) (b,(b.length:Int),0,c,d)) fun _v5=>some true) else ux a fun WT l11=>(f59 WT.1).bind fun y12=>if decide ((0:Int)<(aP bw (.int .i64) y12 c)) then((f59 WT.1).bind fun y13=>if d.length+1≤aH then(rec4 (b,c,aZ bw y13 true d,l11)) else none) else(rec4 (b,c,d,l11))
def Ac:Nat→Ze×Zg×Zg×Zae→Zm:=aL fun rec2 ⟨f,g,b,c,d,e,a⟩=>if List.isEmpty a=true then(Ab (List.length (aX b)+1) (c,d,e,aX b)) else ux a fun kD l15=>(f59 kD.1).bind fun y16=>if bl bw y16 (kD.1.1,kD.1.2.1,())=true then(if d.length+1≤aH then(if bT bw (kD.1.1,kD.1.2.1,()) (aZ bw (kD.1.1,kD.1.2.1,()) (aP bw (.int .i64) (kD.1.1,kD.1.2.1,()) d) d)=true then(nf (.int .i64) (aP bw (.int .i64) y16 d) (aP bw (.int .i64) y16 (aZ bw (kD.1.1,kD.1.2.1,()) (aP bw (.int .i64) (kD.1.1,kD.1.2.1,()) d) d)) (nf (.int .i64) (bq ((aP bw (.int .i64) y16 d)+(1:Int))) (bq ((aP bw (.int .i64) y16 d)+(1:Int))) (rec2 (f,g,b,c,aZ bw (kD.1.1,kD.1.2.1,()) (bq ((aP bw (.int .i64) y16 d)+(1:Int))) (aZ bw (kD.1.1,kD.1.2.1,()) (aP bw (.int .i64) (kD.1.1,kD.1.2.1,()) d) d),e,l15)))) else none) else none) else none
def GR(a0:Ze)(a1:Zg)(a2:Zg)(a3:Zp):Zm:=
 Ac (List.length (aX a1)+1) (a0,a1,a2,a3,([]:List (rQ×Int)),([]:List (rQ×Bool)),aX a1)
def aiG:SS:=⟨87,127,[(5,.mp 29),(6,.mp 30),tP 12 28,(51,.val (.slice 32 bD)),tI 52,tI 53],[(28,bV bw),(29,.map bw (.int .i64)),(30,.map bw .bool)],[]⟩
def aiH:SS:=⟨87,127,[],[],[]⟩
def aiI:SS:=⟨87,127,[(0,.iy (.cons (.val (.slice 8 (.int .i64))) (.cons (.val (.map aK bp)) (.cons (.val (.map aK bp)) (.cons (.dK (.aT .ptr)) .nil))))),(1,.val (.slice 32 bD)),(5,.mp 29),(6,.mp 30),(7,.func 59 .nil .nil),tP 19 35],[(29,.map bw (.int .i64)),(30,.map bw .bool),(35,.kB aK bp)],[]⟩
def aiJ:SS:=⟨87,127,[(1,.val (.slice 32 bD)),(5,.mp 29),(6,.mp 30),(7,.func 59 .nil .nil),tP 36 52],[(29,.map bw (.int .i64)),(30,.map bw .bool),(52,.kB aK bp)],[]⟩
def aiK:SS:=⟨87,127,[(5,.mp 29),(6,.mp 30),(51,.val (.slice 32 bD)),tI 52,tI 53],[(29,.map bw (.int .i64)),(30,.map bw .bool)],[]⟩
def aaj:SS:=⟨87,127,[(4,vB)],[],[]⟩
def V8:bh:=aF G [.tmp 4] 35 [.iy (.cons (.val (.slice 8 (.int .i64))) (.cons (.val (.map aK bp)) (.cons (.val (.map aK bp)) (.cons (.dK (.aT .ptr)) .nil)))),.val (.slice 32 bD)] [] 127 aaj [] (.br (u4 GR))
theorem V9:hS V8:=
 cO ⟨[(6,⟨[],[],[⟨[0],[],[],[],[]⟩],none,[],[.X3 29 (.two (.c 8 [.cD 0]) (.c 8 [.cD 1]))],[]⟩),hA 10 0,hA 11 0,(17,⟨[],[],[],none,[],[.X3 29 (.c 12 [])],[]⟩),(18,⟨[],[],[],none,[],[.X3 29 (.c 12 [])],[]⟩),hD 19 85 []],[(19,aiG),(22,aiH)],[],[(4,⟨aiI,fun u1=>List.length u1.2.2.2.2.2.2+1⟩),(8,⟨aiJ,fun u3=>List.length u3.2.2.2+1⟩),(13,⟨aiK,fun u6=>Int.toNat u6.2.1+1⟩)],[(1000006,6005007),(1000017,4003005),(1000018,4003005)],[]⟩ (hq x59 hz) aJ Tryz.call35 Tryz.func35
end Go.Proofs.YtpmlkhjpbjnagaaGreat
