/- part -/
import Derived.Test.YtpmlkhjpbjnagaaGreatUW
import Derived.Test.YtpmlkhjpbjnagaaGreatY1
import Derived.Test.YtpmlkhjpbjnagaaGreatA5
noncomputable section
namespace Go.Proofs.YtpmlkhjpbjnagaaGreat
open Go.Ax
def nJ(a0:Zg)(a1:Zg)(a2:Ze)(a3:bz)(a4:Zb)(a5:Int)(a6:Int)(a7:Bool)(a8:Zc)(a9:Unit)(a10:Zf)(a11:Zd)(a12:Zh):Option (Zl×Sl):=
 (D5 a1 a0).bind fun y1=>some (y1,a0,a1,a2,a3,a4,a5,a6,a7,a8,a9,a10,a11,a12)
def W8:List (Nat×de):=[(0,.var vJ (.cons (.own 1) (.cons (.val (.map aK bp)) (.cons (.val (.map aK bp)) (.cons (pP 2) .nil))))),(1,.row 3 8 (.int .i64)),(2,fB 3 4 5),(3,.map aK eF),(4,.map aR .bool),(5,.row 110 40 aR)]
def ahI:SS:=⟨12,52,[(2,.val (.slice 48 bp))],W8,[]⟩
def Nv:bh:=aF G [.tmp 2] 23 [pP 0] W8 52 ahI [0,1,2,3,4,5] (.br (I5 nJ))
theorem GI:hS Nv:=
 cO (hR [hA 1 0]) (hq P0 hz) aJ Tryz.call23 Tryz.func23
def f24(a0:Int)(a1:mq):Option Ve:=
 some (a0,a1.1,a1.2.1,a1.2.2.1,())
def ahJ:SS:=⟨13,53,[tP 4 20],[(20,bV bD)],[]⟩
def c24:bh:=aF G [.cell 4 44] 24 [vI,.val bp] [] 53 ahJ [] (.br (u2 f24))
theorem x24:hS c24:=
 cO (hR []) hz aJ Tryz.call24 Tryz.func24
def nK(a0:Zg)(a1:Zg)(a2:Ze)(a3:bz)(a4:Zb)(a5:Int)(a6:Int)(a7:Bool)(a8:Zc)(a9:Unit)(a10:Zf)(a11:Zd)(a12:Zh):Option (Zl×Sl):=
 (D5 a0 a1).bind fun y1=>some (y1,a0,a1,a2,a3,a4,a5,a6,a7,a8,a9,a10,a11,a12)
def ahL:SS:=⟨12,52,[(2,.val (.slice 48 bp))],W8,[]⟩
def Nw:bh:=aF G [.tmp 2] 25 [pP 0] W8 52 ahL [0,1,2,3,4,5] (.br (I5 nK))
theorem B3:hS Nw:=
 cO (hR [hA 1 0]) (hq P0 hz) aJ Tryz.call25 Tryz.func25
def gk(a0:Ve)(a1:Ve)(a2:Int)(a3:Ze)(_a4:Zg)(_a5:Zg):ZV:=
 if 0≤a0.2.1 then(if a0.2.1<(a3.length:Int) then(if 0≤a1.2.1 then(if a1.2.1<(a3.length:Int) then((f30 (nth (.int .i64) a3 a0.2.1) (nth (.int .i64) a3 a1.2.1)).bind fun y1=>(f30 a0.2.2.1 a1.2.2.1).bind fun y2=>(f30 a0.2.2.2.1 a1.2.2.2.1).bind fun y3=>(f29 [bq (a2*y1),y2,y3]).bind fun y4=>some y4) else none) else none) else none) else none
def ahM:SS:=⟨38,78,[tI 6],[],[]⟩
def Vp:bh:=aF G [.tmp 6] 28 [.val bD,.val bD,.cd (.int .i64),.iy (.iy (.cons (.val (.slice 8 (.int .i64))) (.cons (.val (.map aK bp)) (.cons (.val (.map aK bp)) (.cons (.dK (.aT .ptr)) .nil)))))] [] 78 ahM [] (.br (u6 gk))
theorem Vq:hS Vp:=
 cO (hR [hE 1 [cA 0,cA 0,cA 0,cA 1]]) (hq x30 (hq x29 hz)) aJ Tryz.call28 Tryz.func28
def GJ(a0:Int)(a1:Ze)(a2:Zg)(a3:Zg)(a4:Zp):Option Zp:=
 kU (fun x_ y_=>gk x_ y_ a0 a1 a2 a3) a4
def ahN:SS:=⟨14,54,[],[(0,.row 44 32 bD)],[]⟩
def Vr:bh:=aF G [] 27 [.own 0,.func 28 .nil (.cons (.cd (.int .i64)) (.cons (.iy (.iy (.cons (.val (.slice 8 (.int .i64))) (.cons (.val (.map aK bp)) (.cons (.val (.map aK bp)) (.cons (.dK (.aT .ptr)) .nil)))))) .nil))] [(0,.row 44 32 bD)] 54 ahN [0] (.br (u5 GJ))
theorem Vs:hS Vr:=
 ⟨fun d y h=>cast (by kernel_rfl) (LF UU (gl:=gl) trivial (tied.isAgg (t:=44) rfl) (t:=bD) (tied.size (t:=44) rfl) Tryz.call27 Tryz.call28 rfl (cs:=Fj (x8 y0 [.own 0,.func 28 .nil (.cons (.cd (.int .i64)) (.cons (.iy (.iy (.cons (.val (.slice 8 (.int .i64))) (.cons (.val (.map aK bp)) (.cons (.val (.map aK bp)) (.cons (.dK (.aT .ptr)) .nil)))))) .nil))] d)) (by kernel_rfl) (by kernel_rfl) (e:=44) (bs:=32) (k:=78) (m:=54) (by decide) (c:=fun x_ y_=>gk x_ y_ d.1 d.2.1 d.2.2.1 d.2.2.2.1) (show kU _ d.2.2.2.2.1=some y from h) fun x_ y_ r hr=>cast (by kernel_rfl) (Vq.1 (x_,y_,d.1,d.2.1,d.2.2.1,d.2.2.2.1,()) r hr)),fun _ _ h=>h.elim⟩
def xN(a0:Int)(a1:Ze)(a2:Zg)(a3:Zg)(a4:Zp):Option Zp:=
 (GJ a0 a1 a2 a3 a4).bind fun y1=>some y1
def ahO:SS:=⟨8,48,[],[(0,.row 44 32 bD)],[]⟩
def Vt:bh:=aF G [] 26 [.own 0,vI,.iy (.iy (.cons (.val (.slice 8 (.int .i64))) (.cons (.val (.map aK bp)) (.cons (.val (.map aK bp)) (.cons (.dK (.aT .ptr)) .nil)))))] [(0,.row 44 32 bD)] 48 ahO [0] (.br (u5 xN))
theorem Vu:hS Vt:=
 cO (hR [hE 1 [cB 0 [(0,0)] []]]) (hq Vs hz) aJ Tryz.call26 Tryz.func26
def xO:Nat→Zl×Int×Int×Zar→Option (cL Zar Zp):=aL fun am5 ⟨c,b,a,e,f,g,h,i,j,k,l,m,n,o,p,q,d⟩=>if decide (a<b) then(if 0≤a then(if a<(c.length:Int) then((f24 (1:Int) (nth bp c a)).bind fun y6=>if(List.length d+List.length [y6])*32≤aH then(am5 (c,b,bq (a+1),e,f,g,h,i,j,k,l,m,n,o,p,q,d++[y6])) else none) else none) else none) else(some (.brk (e,f,g,h,i,j,k,l,m,n,o,p,q,d)))
def tj:Nat→Zl×Int×Int×Zap→Option (cL Zap Zp):=aL fun rec10 ⟨c,b,a,e,f,g,h,i,j,k,l,m,n,o,p,q,r,d⟩=>if decide (a<b) then(if 0≤a then(if a<(c.length:Int) then((f24 (2:Int) (nth bp c a)).bind fun y11=>if(List.length d+List.length [y11])*32≤aH then(rec10 (c,b,bq (a+1),e,f,g,h,i,j,k,l,m,n,o,p,q,r,d++[y11])) else none) else none) else none) else(some (.brk (e,f,g,h,i,j,k,l,m,n,o,p,q,r,d)))
def Nx(a0:bz)(a1:Ze)(a2:Int)(a3:Int)(a4:Int):Option Zp:=
 (fb a0 a1 a2 a3 a4).bind fun⟨a,d,e,f,g,h,i,j,k,b,c,n,l,m⟩=>if !a then(some ([]:Zp)) else(aI (U:=Zar) ((nJ b c d e f g h i j k l m n).bind fun⟨o,x,y,p,q,r,s,t,u,v,w,aa,ab,z⟩=>xO (Int.toNat (o.length:Int)+1) (o,(o.length:Int),0,p,q,r,s,t,u,v,w,x,y,z,aa,ab,([]:Zp))) fun⟨ae,af,ag,ah,ai,aj,ak,al,ac,ad,ao,am,an,ap⟩=>aI (U:=Zap) ((nK ac ad ae af ag ah ai aj ak al am an ao).bind fun⟨aq,a6,a7,ar,au,av,aw,ax,ay,az,a5,a9,ba,a8⟩=>tj (Int.toNat (aq.length:Int)+1) (aq,(aq.length:Int),0,ar,au,av,aw,ax,ay,az,a5,a6,a7,a8,a9,ba,ap,([]:Zp))) fun⟨bb,_,_,_,_,_,_,_,bc,bd,_,_,_,be,bf⟩=>(xN (1:Int) bb bc bd be).bind fun y12=>(xN (-1:Int) bb bc bd bf).bind fun y13=>if(List.length y12+y13.length)*32≤aH then(some (y12++y13)) else none)
def ahP:SS:=⟨66,106,[(10,.own 88),tP 11 27,(13,.bn)],[(27,.var (.aT .ptr) (pP 83)),(41,.row 3 8 (.int .i64)),(82,fB 85 86 84),(83,.var vJ (.cons (.own 41) (.cons (.val (.map aK bp)) (.cons (.val (.map aK bp)) (.cons (pP 82) .nil))))),(84,.row 110 40 aR),(85,.map aK eF),(86,.map aR .bool),(88,.row 44 32 bD)],[]⟩
def ahQ:SS:=⟨66,106,[(10,.own 88),tP 11 27,(13,.own 90)],[(27,.var (.aT .ptr) (pP 83)),(41,.row 3 8 (.int .i64)),(82,fB 85 86 84),(83,.var vJ (.cons (.own 41) (.cons (.val (.map aK bp)) (.cons (.val (.map aK bp)) (.cons (pP 82) .nil))))),(84,.row 110 40 aR),(85,.map aK eF),(86,.map aR .bool),(88,.row 44 32 bD),(90,.row 44 32 bD)],[]⟩
def ahR:SS:=⟨66,106,[(10,.own 87),tP 11 27,(13,.bn),(31,.val (.slice 48 bp)),tI 32,tI 33],[(27,.var (.aT .ptr) (pP 83)),(41,.row 3 8 (.int .i64)),(82,fB 85 86 84),(83,.var vJ (.cons (.own 41) (.cons (.val (.map aK bp)) (.cons (.val (.map aK bp)) (.cons (pP 82) .nil))))),(84,.row 110 40 aR),(85,.map aK eF),(86,.map aR .bool),(87,.row 44 32 bD)],[]⟩
def ahS:SS:=⟨66,106,[(10,.own 88),tP 11 27,(13,.own 89),(44,.val (.slice 48 bp)),tI 45,tI 46],[(27,.var (.aT .ptr) (pP 83)),(41,.row 3 8 (.int .i64)),(82,fB 85 86 84),(83,.var vJ (.cons (.own 41) (.cons (.val (.map aK bp)) (.cons (.val (.map aK bp)) (.cons (pP 82) .nil))))),(84,.row 110 40 aR),(85,.map aK eF),(86,.map aR .bool),(88,.row 44 32 bD),(89,.row 44 32 bD)],[]⟩
def Vv:SS:=⟨66,106,[(10,.val (.slice 32 bD))],[],[]⟩
def YY:bh:=aF G [.tmp 10] 9 [.val fI,.val (.slice 8 (.int .i64)),vI,vI,vI] [] 106 Vv [] (.br (u5 Nx))
theorem YZ:hS YY:=
 cO ⟨[hE 1 [cB 0 [] [(41,41),(45,82),(47,83),(82,84),(88,85),(89,86)]],hE 5 [cB 1 [(0,83),(1,41),(2,82),(3,85),(4,86),(5,84)] []],hA 8 2,hE 10 [cB 3 [(0,83),(1,41),(2,82),(3,85),(4,86),(5,84)] []],hA 13 2,hE 16 [⟨[4],[(0,88)],[],[],[83,41,82]⟩],hE 17 [⟨[4],[(0,90)],[],[],[83,41,82]⟩]],[(10,ahP),(15,ahQ)],[],[(6,⟨ahR,fun u4=>Int.toNat u4.2.1+1⟩),(11,⟨ahS,fun u9=>Int.toNat u9.2.1+1⟩)],[],[]⟩ (hq pQ (hq GI (hq x24 (hq B3 (hq Vu hz))))) aJ Tryz.call9 Tryz.func9
def iP(a0:bz)(a1:Ze)(a2:Int)(_a3:Int)(_a4:Int):Zm:=
 (f50 a0.1 a1 a2).bind fun y1=>if !y1 then(some false) else none
def ahT:SS:=⟨72,112,[(10,.eP),(11,vB)],[],[]⟩
def Vw:bh:=aF G [.tmp 10,.tmp 11] 22 [.val fI,.val (.slice 8 (.int .i64)),vI,vI,vI] [] 112 ahT [] (.br (u5 iP))
theorem qb:hS Vw:=
 cO (hR [hA 1 0,(3,⟨[],[],[],none,[(0,9999)],[],[]⟩)]) (hq x50 hz) aJ Tryz.call22 Tryz.func22
def Ny(a0:bz)(a1:Ze)(a2:Int)(a3:Int)(a4:Int):Option Zp:=
 (iP a0 a1 a2 a3 a4).bind fun y1=>if !y1 then(some ([]:Zp)) else none
def Y0:bh:=aF G [.tmp 10] 9 [.val fI,.val (.slice 8 (.int .i64)),vI,vI,vI] [] 106 Vv [] (.br (u5 Ny))
theorem Y1:hS Y0:=
 cO (hR [hA 1 0,(4,⟨[],[],[],none,[(0,9999)],[],[]⟩)]) (hq qb hz) aJ Tryz.call9 Tryz.func9
def f9(a0:bz)(a1:Ze)(a2:Int)(a3:Int)(a4:Int):Option Zp:=
 PO (Nx a0 a1 a2 a3 a4) (Ny a0 a1 a2 a3 a4)
def c9:bh:=aF G [.tmp 10] 9 [.val fI,.val (.slice 8 (.int .i64)),vI,vI,vI] [] 106 Vv [] (.br (u5 f9))
theorem x9:hS c9:=bh.or YZ Y1
def Vx:Nat→Zp×Zp×Int→Zs:=aL fun amC ⟨b,c,a⟩=>if decide (a<(b.length:Int)) then(if 0≤a then(if a<(b.length:Int) then(if 0≤a then(if a<(c.length:Int) then(if !bl bD (nth bD b a) (nth bD c a) then none else(amC (b,c,bq (a+1)))) else none) else none) else none) else none) else(some (.brk ()))
def f19(a0:Zp)(a1:Zp):Zm:=
 if !decide ((a0.length:Int)=(a1.length:Int)) then none else(aI (U:=Unit) (Vx iB (a0,a1,0)) fun _v1=>some true)
def ahU:SS:=⟨26,66,[],[],[]⟩
def ahV:SS:=⟨26,66,[(0,.val (.slice 32 bD)),(1,.val (.slice 32 bD)),tI 5],[],[]⟩
def ahW:SS:=⟨26,66,[(4,vB)],[],[]⟩
def c19:bh:=aF G [.tmp 4] 19 [.val (.slice 32 bD),.val (.slice 32 bD)] [] 66 ahW [] (.br (u2 f19))
theorem x19:hS c19:=
 cO ⟨[(2,⟨[],[],[],none,[(0,9999)],[],[]⟩),(7,⟨[],[],[],none,[(0,9999)],[],[]⟩)],[(8,ahU)],[],[(4,⟨ahV,fun _=>iB⟩)],[],[]⟩ hz aJ Tryz.call19 Tryz.func19
def GK(a0:Zp)(a1:Zg)(a2:Zg)(a3:Ze)(a4:bz)(a5:Zb)(a6:Int)(a7:Int)(a8:Bool)(a9:Zc)(a10:Unit)(a11:Zf)(a12:Zd)(a13:Zh):Option (Zg×Zg×Ze×bz×Zb×Int×Int×Bool×Zc×Unit×Zf×Zd×Zh×Zp):=
 some (a1,a2,a3,a4,a5,a6,a7,a8,a9,a10,a11,a12,a13,a0)
def ahX:SS:=⟨6,46,[(4,.func 63 .nil (.cons (pP 18) (.cons (pP 19) .nil)))],[(0,.var vJ (.cons (.own 1) (.cons (.val (.map aK bp)) (.cons (.val (.map aK bp)) (.cons (pP 2) .nil))))),(1,.row 3 8 (.int .i64)),(2,fB 3 4 5),(3,.map aK eF),(4,.map aR .bool),(5,.row 110 40 aR),(18,.var (.aT .ptr) (pP 0)),(19,.var (.slice 32 bD) (.val (.slice 32 bD)))],[]⟩
def Vy:bh:=aF G [.tmp 4] 38 [pP 0,.val (.slice 32 bD)] W8 46 ahX [0,1,2,3,4,5,18,19] (.br (Vf GK))
theorem Vz:hS Vy:=
 cO (hR []) hz aJ Tryz.call38 Tryz.func38
def Nz:Nat→Zl×Zl×Int×Int×ZD→Option (cL (Zl×ZD) (Option ZD)):=aL fun amC ⟨e,c,b,a,d⟩=>if decide (a<b) then(if 0≤a then(if a<(c.length:Int) then((f24 (2:Int) (nth bp c a)).bind fun y4=>(f52 (nth bp c a)).bind fun y5=>if d.length+1≤aH then(amC (e,c,b,bq (a+1),aZ bD y4 (y5,false,()) d)) else none) else none) else none) else(some (.brk (e,d)))
def NA:Nat→Zl×Int×Int×ZD→Option (cL ZD (Option ZD)):=aL fun rec8 ⟨c,b,a,d⟩=>if decide (a<b) then(if 0≤a then(if a<(c.length:Int) then((f24 (1:Int) (nth bp c a)).bind fun y9=>(f52 (nth bp c a)).bind fun y10=>if d.length+1≤aH then(rec8 (c,b,bq (a+1),aZ bD y9 (y10,true,()) d)) else none) else none) else none) else(some (.brk d))
def f58(a0:Zl)(a1:Zl):Option (Option ZD):=
 aI (U:=Zl×ZD) (Nz (Int.toNat (a0.length:Int)+1) (a1,a0,(a0.length:Int),0,([]:ZD))) fun⟨a,b⟩=>aI (U:=ZD) (NA (Int.toNat (a.length:Int)+1) (a,(a.length:Int),0,b)) fun v6=>some (some v6)
def Y2:List (Nat×Sh):=[(1,.val (.slice 48 bp)),(5,.mp 26)]
def ahY:SS:=⟨38,78,Y2,[(26,.map bD dJ)],[]⟩
def ahZ:SS:=⟨38,78,[(5,.mp 26)],[(26,.map bD dJ)],[]⟩
def Y3:List (Nat×Sh):=[(1,.val (.slice 48 bp)),(5,.mp 26),(11,.val (.slice 48 bp)),tI 12,tI 13]
def ah0:SS:=⟨38,78,Y3,[(26,.map bD dJ)],[]⟩
def Y4:List (Nat×Sh):=[(5,.mp 26),(24,.val (.slice 48 bp)),tI 25,tI 26]
def ah1:SS:=⟨38,78,Y4,[(26,.map bD dJ)],[]⟩
def ah2:SS:=⟨38,78,[(4,.val (.map bD dJ))],[],[]⟩
def c58:bh:=aF G [.tmp 4] 58 [.val (.slice 48 bp),.val (.slice 48 bp)] [] 78 ah2 [] (.br (u2 f58))
theorem x58:hS c58:=
 cO ⟨[hE 5 [cA 0,cA 1],hE 10 [cA 0,cA 1]],[(7,ahY),(12,ahZ)],[],[(3,⟨ah0,fun u2=>Int.toNat u2.2.2.1+1⟩),(8,⟨ah1,fun u7=>Int.toNat u7.2.1+1⟩)],[],[]⟩ (hq x24 (hq Ym hz)) aJ Tryz.call58 Tryz.func58
def tk(l_:Nat)(Y_:ZS):Nat→Nat×Option ZD×Zp×Int×Int×YC×Nat×Nat×Ze×bz×Zb×Int×Int×Bool×Zc×Unit×Zg×Zg×Zh×Zf×Zd×Zp×ZN×ZI→Option (cL ZL ZL):=aL fun rec9 ⟨u,s,r,q,p,v,w,x,z,aa,ab,ac,ad,ae,af,ag,ah,ai,aj,ak,al,am,t,y⟩=>if decide (p<q) then(if 0≤p then(if p<(r.length:Int) then(if(bT bD (nth bD r p) (aX s))=true then(if(aP bD dJ (nth bD r p) (aX s)).2.1=true then(if t.length+1≤aH then(if u=l_ then((Y_ (bq (p+1),some (aZ dJ (aP bD dJ (nth bD r p) (aX s)) true t),v,w,x,y,())).bind fun⟨a,b,c,d,e⟩=>if !a then(bU (some (b,c,d,z,aa,ab,ac,ad,ae,af,ag,ah,ai,aj,ak,al,am,e))) else(rec9 (u,s,r,q,bq (p+1),b,c,d,z,aa,ab,ac,ad,ae,af,ag,ah,ai,aj,ak,al,am,aZ dJ (aP bD dJ (nth bD r p) (aX s)) true t,e))) else none) else none) else(if u=l_ then((Y_ (bq (p+1),some (iZ dJ (aP bD dJ (nth bD r p) (aX s)) t),v,w,x,y,())).bind fun⟨f,g,h,i,j⟩=>if !f then(bU (some (g,h,i,z,aa,ab,ac,ad,ae,af,ag,ah,ai,aj,ak,al,am,j))) else(rec9 (u,s,r,q,bq (p+1),g,h,i,z,aa,ab,ac,ad,ae,af,ag,ah,ai,aj,ak,al,am,iZ dJ (aP bD dJ (nth bD r p) (aX s)) t,j))) else none)) else(if u=l_ then((Y_ (bq (p+1),some t,v,w,x,y,())).bind fun⟨k,l,m,n,o⟩=>if !k then(bU (some (l,m,n,z,aa,ab,ac,ad,ae,af,ag,ah,ai,aj,ak,al,am,o))) else(rec9 (u,s,r,q,bq (p+1),l,m,n,z,aa,ab,ac,ad,ae,af,ag,ah,ai,aj,ak,al,am,t,o))) else none)) else none) else none) else(some (.brk (v,w,x,z,aa,ab,ac,ad,ae,af,ag,ah,ai,aj,ak,al,am,y)))
def tn(l_:Nat)(Y_:ZS):Nat→Nat×Option ZD×YC×Nat×Nat×ZI×Ze×bz×Zb×Int×Int×Bool×Zc×Unit×Zg×Zg×Zh×Zf×Zd×Zp×ZN×List (cN×mq)→Option ZL:=aL fun am5 ⟨y,au,aa,ab,ac,ad,ae,af,ag,ah,ai,aj,ak,al,am,an,ao,ap,aq,ar,z,x⟩=>if List.isEmpty x=true then(if y=l_ then((Y_ (0,some z,aa,ab,ac,ad,())).bind fun⟨a,b,c,d,e⟩=>if !a then(some (b,c,d,ae,af,ag,ah,ai,aj,ak,al,am,an,ao,ap,aq,ar,e)) else(aI (U:=ZL) (tk l_ Y_ (Int.toNat (ar.length:Int)+1) (y,au,ar,(ar.length:Int),0,b,c,d,ae,af,ag,ah,ai,aj,ak,al,am,an,ao,ap,aq,ar,z,e)) fun⟨f,g,h,i,j,k,l,m,n,o,p,q,r,s,t,u,v,w⟩=>some (f,g,h,i,j,k,l,m,n,o,p,q,r,s,t,u,v,w))) else none) else ux x fun x13 l14=>if z.length+1≤aH then(am5 (y,au,aa,ab,ac,ad,ae,af,ag,ah,ai,aj,ak,al,am,an,ao,ap,aq,ar,aZ dJ (x13.1,false,()) true z,l14)) else none
def GL(l_:Nat)(Y_:ZS)(a0:Nat)(a1:YC)(a2:Nat)(a3:Nat)(a4:ZI)(a5:Ze)(a6:bz)(a7:Zb)(a8:Int)(a9:Int)(a10:Bool)(a11:Zc)(a12:Unit)(a13:Zg)(a14:Zg)(a15:Zh)(a16:Zf)(a17:Zd)(a18:Zp):Option ZL:=
 (nK a13 a14 a5 a6 a7 a8 a9 a10 a11 a12 a16 a17 a15).bind fun⟨n,a,b,c,d,e,f,g,h,i,j,k,l,m⟩=>(nJ a b c d e f g h i j k l m).bind fun⟨o,p,y,q,r,s,t,u,v,w,x,aa,ab,z⟩=>(f58 n o).bind fun y3=>tn l_ Y_ (List.length (aX p)+1) (a0,y3,a1,a2,a3,a4,q,r,s,t,u,v,w,x,p,y,z,aa,ab,a18,([]:ZN),aX p)
def ah3:SS:=⟨60,100,[],[(0,.lp),(1,.tv (.slice 32 dJ) (.own 79)),(3,.row 3 8 (.int .i64)),(4,.var (.aT .ptr) (pP 6)),(5,fB 8 9 7),(6,.var vJ (.cons (.own 3) (.cons (.val (.map aK bp)) (.cons (.val (.map aK bp)) (.cons (pP 5) .nil))))),(7,.row 110 40 aR),(8,.map aK eF),(9,.map aR .bool),(10,.var (.slice 32 bD) (.val (.slice 32 bD))),(79,.gq 90 32 dJ)],[]⟩
def ah4:SS:=⟨60,100,[(0,.Du),tP 2 10,(4,.val (.map bD dJ)),(5,.mp 32),tP 21 37],[(0,.lp),(1,.tv (.slice 32 dJ) (.own 2)),(2,.gq 90 32 dJ),(3,.row 3 8 (.int .i64)),(4,.var (.aT .ptr) (pP 6)),(5,fB 8 9 7),(6,.var vJ (.cons (.own 3) (.cons (.val (.map aK bp)) (.cons (.val (.map aK bp)) (.cons (pP 5) .nil))))),(7,.row 110 40 aR),(8,.map aK eF),(9,.map aR .bool),(10,.var (.slice 32 bD) (.val (.slice 32 bD))),(32,.map dJ .bool),(37,.kB aK bp)],[]⟩
def ah5:SS:=⟨60,100,[(0,.Du),(4,.val (.map bD dJ)),(5,.mp 32),(33,.val (.slice 32 bD)),tI 34,tI 35],[(0,.lp),(1,.tv (.slice 32 dJ) (.own 78)),(3,.row 3 8 (.int .i64)),(4,.var (.aT .ptr) (pP 6)),(5,fB 8 9 7),(6,.var vJ (.cons (.own 3) (.cons (.val (.map aK bp)) (.cons (.val (.map aK bp)) (.cons (pP 5) .nil))))),(7,.row 110 40 aR),(8,.map aK eF),(9,.map aR .bool),(10,.var (.slice 32 bD) (.val (.slice 32 bD))),(32,.map dJ .bool),(78,.gq 90 32 dJ)],[]⟩
def ah6:SS:=⟨60,100,[],[(0,.lp),(1,.tv (.slice 32 dJ) (.own 80)),(3,.row 3 8 (.int .i64)),(4,.var (.aT .ptr) (pP 6)),(5,fB 8 9 7),(6,.var vJ (.cons (.own 3) (.cons (.val (.map aK bp)) (.cons (.val (.map aK bp)) (.cons (pP 5) .nil))))),(7,.row 110 40 aR),(8,.map aK eF),(9,.map aR .bool),(10,.var (.slice 32 bD) (.val (.slice 32 bD))),(80,.gq 90 32 dJ)],[]⟩
def GM:IC:=⟨[vI,.val (.map dJ .bool)],[(0,.lp),(1,.tv (.slice 32 dJ) (.own 2)),(2,.gq 90 32 dJ)],123,0,[(1,.tv (.slice 32 dJ) (.own 107)),(107,.gq 90 32 dJ)],fun l f=>aF G [] 63 [.Du,pP 4,pP 10] [(0,.lp),(1,.tv (.slice 32 dJ) (.own 2)),(2,.gq 90 32 dJ),(3,.row 3 8 (.int .i64)),(4,.var (.aT .ptr) (pP 6)),(5,fB 8 9 7),(6,.var vJ (.cons (.own 3) (.cons (.val (.map aK bp)) (.cons (.val (.map aK bp)) (.cons (pP 5) .nil))))),(7,.row 110 40 aR),(8,.map aK eF),(9,.map aR .bool),(10,.var (.slice 32 bD) (.val (.slice 32 bD)))] 100 ah6 [0,1,3,4,5,6,7,8,9,10,80] (.br (u19 (GL l f)))⟩
theorem VA:GM.holds Tryz.prog gl:=fun B hB l f hY=>
 bh.of tied (H:=⟨[hE 0 [cB 1 [(0,6),(1,3),(2,5),(3,8),(4,9),(5,7)] [],cB 2 [(0,6),(1,3),(2,5),(3,8),(4,9),(5,7)] [],cA 3],hE 5 [cB 0 [(0,0),(1,1),(2,2)] [(107,76)]],hE 14 [cB 0 [(0,0),(1,1),(2,78)] [(107,77)]]],[],[(2,ah3)],[(2,⟨ah4,fun u4=>List.length u4.2.2.2.2.2.2.2.2.2.2.2.2.2.2.2.2.2.2.2.2.2+1⟩),(7,⟨ah5,fun u8=>Int.toNat u8.2.2.2.1+1⟩)],[],[]⟩) (hold (l:=[IC.Y GM l f,Nw,Nv,c58]) ⟨hY,B3.up rfl (fun _ _=>trivial),GI.up rfl (fun _ _=>trivial),x58.up rfl (fun _ _=>trivial),trivial⟩) aJ rfl Tryz.call63 Tryz.func63 rfl rfl rfl rfl (fun _=>by kernel_rfl) (fun _=>by kernel_rfl)
def f40(a0:W5)(a1:W5):ZV:=
 Option.bind (α:=Bool) (if(bl aK a0.1 a1.1)=true then(some (!(a0.2.1==a1.2.1))) else(some false)) fun v1=>if v1=true then(if a1.2.1=true then(some (-1:Int)) else(some (1:Int))) else((f41 a0.1 a1.1).bind fun y2=>some y2)
def ah7:SS:=⟨24,64,[tI 4],[],[]⟩
def c40:bh:=aF G [.tmp 4] 40 [.val dJ,.val dJ] [] 64 ah7 [] (.br (u2 f40))
theorem x40:hS c40:=
 cO (hR [hD 1 16 [],hA 5 0]) (hq x41 hz) aJ Tryz.call40 Tryz.func40
def B4(a0:ZI):Option ZI:=
 kU (fun x_ y_=>f40 x_ y_) a0
def ah8:SS:=⟨14,54,[],[(0,.row 90 32 dJ)],[]⟩
def VB:bh:=aF G [] 39 [.own 0,.func 40 .nil .nil] [(0,.row 90 32 dJ)] 54 ah8 [0] (.br (u1 B4))
theorem VD:hS VB:=
 ⟨fun d y h=>cast (by kernel_rfl) (LF UT (gl:=gl) trivial (tied.isAgg (t:=90) rfl) (t:=dJ) (tied.size (t:=90) rfl) Tryz.call39 Tryz.call40 rfl (cs:=Fj (x8 y0 [.own 0,.func 40 .nil .nil] d)) (by kernel_rfl) (by kernel_rfl) (e:=90) (bs:=32) (k:=64) (m:=54) (by decide) (c:=fun x_ y_=>f40 x_ y_) (show kU _ d.1=some y from h) fun x_ y_ r hr=>cast (by kernel_rfl) (x40.1 (x_,y_,()) r hr)),fun _ _ h=>h.elim⟩
def xP:Nat→ZN×ZI→Option (cL ZI (Nat×Nat×ZI)):=aL fun rec6 ⟨a,b⟩=>if List.isEmpty a=true then(some (.brk b)) else ux a fun x7 l8=>ue b fun q9=>if(List.length q9+List.length [x7.1])*32≤aH then(rec6 (l8,uz (gz dJ) (q9++[x7.1]))) else none
def oJ(d8_0:Zp)(y_:YC)(b8_0:Int)(b8_1:Option ZN)(yt:YC)(yj:Nat)(g1:Nat)(c8_0:ZI):Option (Bool×YC×Nat×Nat×ZI):=
 N3 yt y_ (if yj=0 then(if g1=y_.gs 1 then(Option.bind (α:=Nat×Nat×ZI) (aI (U:=ZI) (if decide (b8_0<(List.length d8_0:Int)) then(some (.brk c8_0)) else(xP (List.length (aX b8_1)+1) (aX b8_1,c8_0))) fun v4=>some (0,y_.gs 1,v4)) fun r_=>if r_.2.1=y_.gs 1 then(some (Nat.beq r_.1 0,y_,r_.1,r_.2.1,r_.2.2)) else none) else none) else none)
def l7:Nat→Int×Int×Ze×bz×Zb×Int×Int×Bool×Zc×Unit×Zg×Zg×Zh×Zf×Zd×ZI×Zl→Option (cL Zl Zl):=aL fun rec16 ⟨b,a,f,g,h,i,j,k,l,m,n,e,o,p,q,c,d⟩=>if decide (a<b) then(if 0≤a then(if a<(c.length:Int) then(if(nth dJ c a).2.1=true then(if(List.length d+List.length [aP aK bp (nth dJ c a).1 (aX e)])*48≤aH then(rec16 (b,bq (a+1),f,g,h,i,j,k,l,m,n,e,o,p,q,c,d++[aP aK bp (nth dJ c a).1 (aX e)])) else none) else(if(List.length d+List.length [aP aK bp (nth dJ c a).1 (aX n)])*48≤aH then(rec16 (b,bq (a+1),f,g,h,i,j,k,l,m,n,e,o,p,q,c,d++[aP aK bp (nth dJ c a).1 (aX n)])) else none)) else none) else none) else(some (.brk d))
def GN(a0:bz)(a1:Ze)(a2:Int)(a3:Int)(a4:Int)(a5:Zp):Ct:=
 (fb a0 a1 a2 a3 a4).bind fun⟨a,e,f,g,h,i,j,k,m,b,c,p,n,o⟩=>if !a then(some ([]:Zl)) else(aI (U:=Ze×bz×Zb×Int×Int×Bool×Zc×Unit×Zg×Zg×Zh×Zf×Zd×ZI) ((GK a5 b c e f g h i j k m n o p).bind fun⟨y,z,q,r,s,t,u,v,w,x,ab,ac,aa,ad⟩=>yh fun y10=>(GL y10.l (fun d=>oJ a5 y10 d.1 d.2.1 d.2.2.1 d.2.2.2.1 d.2.2.2.2.1 d.2.2.2.2.2.1) y10.l y10 0 (y10.gs 1) (uz (gz dJ) ([]:ZI)) q r s t u v w x y z aa ab ac ad).bind fun⟨ae,af,_,ag,ah,ai,aj,ak,al,am,an,ao,ap,aq,ar,au,_,av⟩=>N3 ae y10 (if af=0 then(some (.brk (ag,ah,ai,aj,ak,al,am,an,ao,ap,aq,ar,au,av))) else none)) fun⟨ax,ay,az,a6,a7,a8,a9,ba,bb,bc,bd,be,bf,aw⟩=>ue aw fun q12=>(B4 q12).bind fun y13=>aI (U:=Zl) (l7 (Int.toNat (y13.length:Int)+1) ((y13.length:Int),0,ax,ay,az,a6,a7,a8,a9,ba,bb,bc,bd,be,bf,y13,([]:Zl))) fun v14=>some v14)
def ah9:SS:=⟨83,123,[(12,.bn),tP 13 100,tP 15 31],[(31,.var (.slice 32 dJ) (.own 111)),(43,.row 3 8 (.int .i64)),(99,fB 102 103 101),(100,.var vJ (.cons (.own 43) (.cons (.val (.map aK bp)) (.cons (.val (.map aK bp)) (.cons (pP 99) .nil))))),(101,.row 110 40 aR),(102,.map aK eF),(103,.map aR .bool),(109,.uS),(111,.gq 90 32 dJ)],[.mp 109]⟩
def aia:SS:=⟨83,123,[(12,.own 113)],[(109,.uS),(113,.row 50 48 bp)],[.mp 109]⟩
def Y5:SS:=⟨83,123,[],[(1,.var (.slice 32 dJ) (.own 107)),(107,.gq 90 32 dJ)],[]⟩
def aib:SS:=⟨83,123,[tP 15 1,tP 42 58],[(1,.var (.slice 32 dJ) (.own 106)),(58,.kB dJ .bool),(106,.gq 90 32 dJ)],[]⟩
def aic:SS:=⟨83,123,[(12,.own 112),tP 13 100,(53,.own 111),tI 54,tI 55],[(43,.row 3 8 (.int .i64)),(99,fB 102 103 101),(100,.var vJ (.cons (.own 43) (.cons (.val (.map aK bp)) (.cons (.val (.map aK bp)) (.cons (pP 99) .nil))))),(101,.row 110 40 aR),(102,.map aK eF),(103,.map aR .bool),(109,.uS),(111,.row 90 32 dJ),(112,.row 50 48 bp)],[.mp 109]⟩
def aid:SS:=⟨83,123,[(11,.cd (.slice 32 bD)),(12,.bn),tP 13 100,tP 15 31,(34,.func 63 .nil (.cons (pP 50) (.cons (pP 105) .nil)))],[(31,.var (.slice 32 dJ) (.own 108)),(43,.row 3 8 (.int .i64)),(50,.var (.aT .ptr) (pP 100)),(99,fB 102 103 101),(100,.var vJ (.cons (.own 43) (.cons (.val (.map aK bp)) (.cons (.val (.map aK bp)) (.cons (pP 99) .nil))))),(101,.row 110 40 aR),(102,.map aK eF),(103,.map aR .bool),(105,.var (.slice 32 bD) (.val (.slice 32 bD))),(108,.gq 90 32 dJ)],[]⟩
def Sw:SS:=⟨83,123,[(12,.val (.slice 48 bp))],[],[]⟩
def VE:bh:=aF G [.tmp 12] 13 [.val fI,.val (.slice 8 (.int .i64)),vI,vI,vI,.val (.slice 32 bD)] [] 123 Sw [] (.br (u6 GN))
theorem VF:hS VE:=
 cO ⟨[hE 1 [cB 0 [] [(41,43),(45,99),(47,100),(82,101),(88,102),(89,103)]],(5,⟨[.freeze 27 (.slice 1 (.int .u8)),.sP 31 [] 104 90 32 dJ,.N5 104],[],[⟨[1],[(0,100),(1,43),(2,99),(3,102),(4,103),(5,101)],[(18,50),(19,105)],[],[]⟩],none,[],[],[]⟩),(12,⟨[],[],[],none,[],[.W1 106],[.N5 66]⟩),(13,⟨[],[],[⟨[2],[(0,111)],[],[],[]⟩],none,[],[.W1 111],[]⟩)],[(13,ah9),(21,aia)],[(1,Y5)],[(10,⟨aib,fun u5=>List.length u5.1+1⟩),(15,⟨aic,fun u15=>Int.toNat u15.1+1⟩)],[],[(8,⟨0,109,110,[(1,.slice 32 dJ)],[(31,1)],[],[(0,110),(1,31),(2,108),(3,43),(4,50),(5,99),(6,100),(7,101),(8,102),(9,103),(10,105)],[(80,111)],aid,Y5⟩)]⟩ (hq pQ (hq Vz (hq VD hz))) (DL (L:=[GM]) ⟨VA,trivial⟩) Tryz.call13 Tryz.func13
end Go.Proofs.YtpmlkhjpbjnagaaGreat
