/- part -/
import Derived.Test.YtpmlkhjpbjnagaaGreatUW
import Derived.Test.YtpmlkhjpbjnagaaGreatY1
import Derived.Test.YtpmlkhjpbjnagaaGreatA5
noncomputable section
namespace Go.Proofs.YtpmlkhjpbjnagaaGreat
open Go.Ax
def nF(a0:Zg)(a1:Zg)(a2:Ze)(a3:bz)(a4:Zb)(a5:Int)(a6:Int)(a7:Bool)(a8:Zc)(a9:Unit)(a10:Zf)(a11:Zd)(a12:Zh):Option (Zn×RQ):=
 (DU a1 a0).bind fun y1=>some (y1,a0,a1,a2,a3,a4,a5,a6,a7,a8,a9,a10,a11,a12)
def WG:List (Nat×de):=[(0,.var vC (.cons (.own 1) (.cons (.val (.map aJ br)) (.cons (.val (.map aJ br)) (.cons (pP 2) .nil))))),(1,.row 3 8 (.int .i64)),(2,fB 3 4 5),(3,.map aJ eE),(4,.map aR .bool),(5,.row 110 40 aR)]
def ahw:SS:=⟨12,52,[(2,.val (.slice 48 br))],WG,[]⟩
def M5:aZ:=aG G [.tmp 2] 23 [pP 0] WG 52 ahw [0,1,2,3,4,5] (.bq (Kb nF))
theorem Gu:hS M5:=
 cO (hR [hA 1 0]) (hq Pw hz) aK Tryz.call23 Tryz.func23
def f24(a0:Int)(a1:k9):Option S2:=
 some (a0,a1.1,a1.2.1,a1.2.2.1,())
def ahx:SS:=⟨13,53,[tP 4 20],[(20,bV bB)],[]⟩
def c24:aZ:=aG G [.cell 4 44] 24 [vI,.val br] [] 53 ahx [] (.bq (u2 f24))
theorem x24:hS c24:=
 cO (hR []) hz aK Tryz.call24 Tryz.func24
def nG(a0:Zg)(a1:Zg)(a2:Ze)(a3:bz)(a4:Zb)(a5:Int)(a6:Int)(a7:Bool)(a8:Zc)(a9:Unit)(a10:Zf)(a11:Zd)(a12:Zh):Option (Zn×RQ):=
 (DU a0 a1).bind fun y1=>some (y1,a0,a1,a2,a3,a4,a5,a6,a7,a8,a9,a10,a11,a12)
def ahz:SS:=⟨12,52,[(2,.val (.slice 48 br))],WG,[]⟩
def M6:aZ:=aG G [.tmp 2] 25 [pP 0] WG 52 ahz [0,1,2,3,4,5] (.bq (Kb nG))
theorem BZ:hS M6:=
 cO (hR [hA 1 0]) (hq Pw hz) aK Tryz.call25 Tryz.func25
def fZ(a0:S2)(a1:S2)(a2:Int)(a3:Ze)(_a4:Zg)(_a5:Zg):ZU:=
 if 0≤a0.2.1 then(if a0.2.1<(a3.length:Int) then(if 0≤a1.2.1 then(if a1.2.1<(a3.length:Int) then((f30 (nth (.int .i64) a3 a0.2.1) (nth (.int .i64) a3 a1.2.1)).bind fun y1=>(f30 a0.2.2.1 a1.2.2.1).bind fun y2=>(f30 a0.2.2.2.1 a1.2.2.2.1).bind fun y3=>(f29 [bp (a2*y1),y2,y3]).bind fun y4=>some y4) else none) else none) else none) else none
def ahA:SS:=⟨38,78,[tI 6],[],[]⟩
def U2:aZ:=aG G [.tmp 6] 28 [.val bB,.val bB,.cd (.int .i64),.iv (.iv (.cons (.val (.slice 8 (.int .i64))) (.cons (.val (.map aJ br)) (.cons (.val (.map aJ br)) (.cons (.dK (.aT .ptr)) .nil)))))] [] 78 ahA [] (.bq (u6 fZ))
theorem U3:hS U2:=
 cO (hR [hE 1 [cA 0,cA 0,cA 0,cA 1]]) (hq x30 (hq x29 hz)) aK Tryz.call28 Tryz.func28
def Gv(a0:Int)(a1:Ze)(a2:Zg)(a3:Zg)(a4:Zo):Option Zo:=
 kN (fun x_ y_=>fZ x_ y_ a0 a1 a2 a3) a4
def ahB:SS:=⟨14,54,[],[(0,.row 44 32 bB)],[]⟩
def U4:aZ:=aG G [] 27 [.own 0,.func 28 .nil (.cons (.cd (.int .i64)) (.cons (.iv (.iv (.cons (.val (.slice 8 (.int .i64))) (.cons (.val (.map aJ br)) (.cons (.val (.map aJ br)) (.cons (.dK (.aT .ptr)) .nil)))))) .nil))] [(0,.row 44 32 bB)] 54 ahB [0] (.bq (u5 Gv))
theorem U5:hS U4:=
 ⟨fun d y h=>cast (by kernel_rfl) (Lj Ux (gl:=gl) trivial (tied.isAgg (t:=44) rfl) (t:=bB) (tied.size (t:=44) rfl) Tryz.call27 Tryz.call28 rfl (cs:=EY (xV y0 [.own 0,.func 28 .nil (.cons (.cd (.int .i64)) (.cons (.iv (.iv (.cons (.val (.slice 8 (.int .i64))) (.cons (.val (.map aJ br)) (.cons (.val (.map aJ br)) (.cons (.dK (.aT .ptr)) .nil)))))) .nil))] d)) (by kernel_rfl) (by kernel_rfl) (e:=44) (bs:=32) (k:=78) (m:=54) (by decide) (c:=fun x_ y_=>fZ x_ y_ d.1 d.2.1 d.2.2.1 d.2.2.2.1) (show kN _ d.2.2.2.2.1=some y from h) fun x_ y_ r hr=>cast (by kernel_rfl) (U3.1 (x_,y_,d.1,d.2.1,d.2.2.1,d.2.2.2.1,()) r hr)),fun _ _ h=>h.elim⟩
def xG(a0:Int)(a1:Ze)(a2:Zg)(a3:Zg)(a4:Zo):Option Zo:=
 (Gv a0 a1 a2 a3 a4).bind fun y1=>some y1
def ahC:SS:=⟨8,48,[],[(0,.row 44 32 bB)],[]⟩
def U6:aZ:=aG G [] 26 [.own 0,vI,.iv (.iv (.cons (.val (.slice 8 (.int .i64))) (.cons (.val (.map aJ br)) (.cons (.val (.map aJ br)) (.cons (.dK (.aT .ptr)) .nil)))))] [(0,.row 44 32 bB)] 48 ahC [0] (.bq (u5 xG))
theorem U7:hS U6:=
 cO (hR [hE 1 [cB 0 [(0,0)] []]]) (hq U5 hz) aK Tryz.call26 Tryz.func26
def xH:Nat→Zn×Int×Int×Zaq→Option (cJ Zaq Zo):=aL fun amx ⟨c,b,a,e,f,g,h,i,j,k,l,m,n,o,p,q,d⟩=>if decide (a<b) then(if 0≤a then(if a<(c.length:Int) then((f24 (1:Int) (nth br c a)).bind fun y6=>if(List.length d+List.length [y6])*32≤aH then(amx (c,b,bp (a+1),e,f,g,h,i,j,k,l,m,n,o,p,q,d++[y6])) else none) else none) else none) else(some (.brk (e,f,g,h,i,j,k,l,m,n,o,p,q,d)))
def sX:Nat→Zn×Int×Int×Zao→Option (cJ Zao Zo):=aL fun rec10 ⟨c,b,a,e,f,g,h,i,j,k,l,m,n,o,p,q,r,d⟩=>if decide (a<b) then(if 0≤a then(if a<(c.length:Int) then((f24 (2:Int) (nth br c a)).bind fun y11=>if(List.length d+List.length [y11])*32≤aH then(rec10 (c,b,bp (a+1),e,f,g,h,i,j,k,l,m,n,o,p,q,r,d++[y11])) else none) else none) else none) else(some (.brk (e,f,g,h,i,j,k,l,m,n,o,p,q,r,d)))
def M7(a0:bz)(a1:Ze)(a2:Int)(a3:Int)(a4:Int):Option Zo:=
 (fv a0 a1 a2 a3 a4).bind fun⟨a,d,e,f,g,h,i,j,k,b,c,n,l,m⟩=>if !a then(some ([]:Zo)) else(aI (U:=Zaq) ((nF b c d e f g h i j k l m n).bind fun⟨o,x,y,p,q,r,s,t,u,v,w,aa,ab,z⟩=>xH (Int.toNat (o.length:Int)+1) (o,(o.length:Int),0,p,q,r,s,t,u,v,w,x,y,z,aa,ab,([]:Zo))) fun⟨ae,af,ag,ah,ai,aj,ak,al,ac,ad,ao,am,an,ap⟩=>aI (U:=Zao) ((nG ac ad ae af ag ah ai aj ak al am an ao).bind fun⟨aq,a6,a7,ar,au,av,aw,ax,ay,az,a5,a9,ba,a8⟩=>sX (Int.toNat (aq.length:Int)+1) (aq,(aq.length:Int),0,ar,au,av,aw,ax,ay,az,a5,a6,a7,a8,a9,ba,ap,([]:Zo))) fun⟨bb,_,_,_,_,_,_,_,bc,bd,_,_,_,be,bf⟩=>(xG (1:Int) bb bc bd be).bind fun y12=>(xG (-1:Int) bb bc bd bf).bind fun y13=>if(List.length y12+y13.length)*32≤aH then(some (y12++y13)) else none)
def ahD:SS:=⟨66,106,[(10,.own 88),tP 11 27,(13,.bn)],[(27,.var (.aT .ptr) (pP 83)),(41,.row 3 8 (.int .i64)),(82,fB 85 86 84),(83,.var vC (.cons (.own 41) (.cons (.val (.map aJ br)) (.cons (.val (.map aJ br)) (.cons (pP 82) .nil))))),(84,.row 110 40 aR),(85,.map aJ eE),(86,.map aR .bool),(88,.row 44 32 bB)],[]⟩
def ahE:SS:=⟨66,106,[(10,.own 88),tP 11 27,(13,.own 90)],[(27,.var (.aT .ptr) (pP 83)),(41,.row 3 8 (.int .i64)),(82,fB 85 86 84),(83,.var vC (.cons (.own 41) (.cons (.val (.map aJ br)) (.cons (.val (.map aJ br)) (.cons (pP 82) .nil))))),(84,.row 110 40 aR),(85,.map aJ eE),(86,.map aR .bool),(88,.row 44 32 bB),(90,.row 44 32 bB)],[]⟩
def ahF:SS:=⟨66,106,[(10,.own 87),tP 11 27,(13,.bn),(31,.val (.slice 48 br)),tI 32,tI 33],[(27,.var (.aT .ptr) (pP 83)),(41,.row 3 8 (.int .i64)),(82,fB 85 86 84),(83,.var vC (.cons (.own 41) (.cons (.val (.map aJ br)) (.cons (.val (.map aJ br)) (.cons (pP 82) .nil))))),(84,.row 110 40 aR),(85,.map aJ eE),(86,.map aR .bool),(87,.row 44 32 bB)],[]⟩
def ahG:SS:=⟨66,106,[(10,.own 88),tP 11 27,(13,.own 89),(44,.val (.slice 48 br)),tI 45,tI 46],[(27,.var (.aT .ptr) (pP 83)),(41,.row 3 8 (.int .i64)),(82,fB 85 86 84),(83,.var vC (.cons (.own 41) (.cons (.val (.map aJ br)) (.cons (.val (.map aJ br)) (.cons (pP 82) .nil))))),(84,.row 110 40 aR),(85,.map aJ eE),(86,.map aR .bool),(88,.row 44 32 bB),(89,.row 44 32 bB)],[]⟩
def U8:SS:=⟨66,106,[(10,.val (.slice 32 bB))],[],[]⟩
def YV:aZ:=aG G [.tmp 10] 9 [.val fF,.val (.slice 8 (.int .i64)),vI,vI,vI] [] 106 U8 [] (.bq (u5 M7))
theorem YW:hS YV:=
 cO ⟨[hE 1 [cB 0 [] [(41,41),(45,82),(47,83),(82,84),(88,85),(89,86)]],hE 5 [cB 1 [(0,83),(1,41),(2,82),(3,85),(4,86),(5,84)] []],hA 8 2,hE 10 [cB 3 [(0,83),(1,41),(2,82),(3,85),(4,86),(5,84)] []],hA 13 2,hE 16 [⟨[4],[(0,88)],[],[],[83,41,82]⟩],hE 17 [⟨[4],[(0,90)],[],[],[83,41,82]⟩]],[(10,ahD),(15,ahE)],[],[(6,⟨ahF,fun u4=>Int.toNat u4.2.1+1⟩),(11,⟨ahG,fun u9=>Int.toNat u9.2.1+1⟩)],[],[]⟩ (hq pN (hq Gu (hq x24 (hq BZ (hq U7 hz))))) aK Tryz.call9 Tryz.func9
def iM(a0:bz)(a1:Ze)(a2:Int)(_a3:Int)(_a4:Int):Zl:=
 (f50 a0.1 a1 a2).bind fun y1=>if !y1 then(some false) else none
def ahH:SS:=⟨72,112,[(10,.eN),(11,vB)],[],[]⟩
def U9:aZ:=aG G [.tmp 10,.tmp 11] 22 [.val fF,.val (.slice 8 (.int .i64)),vI,vI,vI] [] 112 ahH [] (.bq (u5 iM))
theorem pZ:hS U9:=
 cO (hR [hA 1 0,(3,⟨[],[],[],none,[(0,9999)],[],[]⟩)]) (hq x50 hz) aK Tryz.call22 Tryz.func22
def M8(a0:bz)(a1:Ze)(a2:Int)(a3:Int)(a4:Int):Option Zo:=
 (iM a0 a1 a2 a3 a4).bind fun y1=>if !y1 then(some ([]:Zo)) else none
def YX:aZ:=aG G [.tmp 10] 9 [.val fF,.val (.slice 8 (.int .i64)),vI,vI,vI] [] 106 U8 [] (.bq (u5 M8))
theorem YY:hS YX:=
 cO (hR [hA 1 0,(4,⟨[],[],[],none,[(0,9999)],[],[]⟩)]) (hq pZ hz) aK Tryz.call9 Tryz.func9
def f9(a0:bz)(a1:Ze)(a2:Int)(a3:Int)(a4:Int):Option Zo:=
 Pm (M7 a0 a1 a2 a3 a4) (M8 a0 a1 a2 a3 a4)
def c9:aZ:=aG G [.tmp 10] 9 [.val fF,.val (.slice 8 (.int .i64)),vI,vI,vI] [] 106 U8 [] (.bq (u5 f9))
theorem x9:hS c9:=aZ.or YW YY
def Va:Nat→Zo×Zo×Int→Zs:=aL fun al4 ⟨b,c,a⟩=>if decide (a<(b.length:Int)) then(if 0≤a then(if a<(b.length:Int) then(if 0≤a then(if a<(c.length:Int) then(if !bl bB (nth bB b a) (nth bB c a) then none else(al4 (b,c,bp (a+1)))) else none) else none) else none) else none) else(some (.brk ()))
def f19(a0:Zo)(a1:Zo):Zl:=
 if !decide ((a0.length:Int)=(a1.length:Int)) then none else(aI (U:=Unit) (Va iZ (a0,a1,0)) fun _v1=>some true)
def ahI:SS:=⟨26,66,[],[],[]⟩
def ahJ:SS:=⟨26,66,[(0,.val (.slice 32 bB)),(1,.val (.slice 32 bB)),tI 5],[],[]⟩
def ahK:SS:=⟨26,66,[(4,vB)],[],[]⟩
def c19:aZ:=aG G [.tmp 4] 19 [.val (.slice 32 bB),.val (.slice 32 bB)] [] 66 ahK [] (.bq (u2 f19))
theorem x19:hS c19:=
 cO ⟨[(2,⟨[],[],[],none,[(0,9999)],[],[]⟩),(7,⟨[],[],[],none,[(0,9999)],[],[]⟩)],[(8,ahI)],[],[(4,⟨ahJ,fun _=>iZ⟩)],[],[]⟩ hz aK Tryz.call19 Tryz.func19
def Gw(a0:Zo)(a1:Zg)(a2:Zg)(a3:Ze)(a4:bz)(a5:Zb)(a6:Int)(a7:Int)(a8:Bool)(a9:Zc)(a10:Unit)(a11:Zf)(a12:Zd)(a13:Zh):Option (Zg×Zg×Ze×bz×Zb×Int×Int×Bool×Zc×Unit×Zf×Zd×Zh×Zo):=
 some (a1,a2,a3,a4,a5,a6,a7,a8,a9,a10,a11,a12,a13,a0)
def ahL:SS:=⟨6,46,[(4,.func 63 .nil (.cons (pP 18) (.cons (pP 19) .nil)))],[(0,.var vC (.cons (.own 1) (.cons (.val (.map aJ br)) (.cons (.val (.map aJ br)) (.cons (pP 2) .nil))))),(1,.row 3 8 (.int .i64)),(2,fB 3 4 5),(3,.map aJ eE),(4,.map aR .bool),(5,.row 110 40 aR),(18,.var (.aT .ptr) (pP 0)),(19,.var (.slice 32 bB) (.val (.slice 32 bB)))],[]⟩
def Vb:aZ:=aG G [.tmp 4] 38 [pP 0,.val (.slice 32 bB)] WG 46 ahL [0,1,2,3,4,5,18,19] (.bq (UR Gw))
theorem Vc:hS Vb:=
 cO (hR []) hz aK Tryz.call38 Tryz.func38
def M9:Nat→Zn×Zn×Int×Int×ZD→Option (cJ (Zn×ZD) (Option ZD)):=aL fun al4 ⟨e,c,b,a,d⟩=>if decide (a<b) then(if 0≤a then(if a<(c.length:Int) then((f24 (2:Int) (nth br c a)).bind fun y4=>(f52 (nth br c a)).bind fun y5=>if d.length+1≤aH then(al4 (e,c,b,bp (a+1),aY bB y4 (y5,false,()) d)) else none) else none) else none) else(some (.brk (e,d)))
def Na:Nat→Zn×Int×Int×ZD→Option (cJ ZD (Option ZD)):=aL fun rec8 ⟨c,b,a,d⟩=>if decide (a<b) then(if 0≤a then(if a<(c.length:Int) then((f24 (1:Int) (nth br c a)).bind fun y9=>(f52 (nth br c a)).bind fun y10=>if d.length+1≤aH then(rec8 (c,b,bp (a+1),aY bB y9 (y10,true,()) d)) else none) else none) else none) else(some (.brk d))
def f58(a0:Zn)(a1:Zn):Option (Option ZD):=
 aI (U:=Zn×ZD) (M9 (Int.toNat (a0.length:Int)+1) (a1,a0,(a0.length:Int),0,([]:ZD))) fun⟨a,b⟩=>aI (U:=ZD) (Na (Int.toNat (a.length:Int)+1) (a,(a.length:Int),0,b)) fun v6=>some (some v6)
def YZ:List (Nat×Sh):=[(1,.val (.slice 48 br)),(5,.mp 26)]
def ahM:SS:=⟨38,78,YZ,[(26,.map bB dJ)],[]⟩
def ahN:SS:=⟨38,78,[(5,.mp 26)],[(26,.map bB dJ)],[]⟩
def Y0:List (Nat×Sh):=[(1,.val (.slice 48 br)),(5,.mp 26),(11,.val (.slice 48 br)),tI 12,tI 13]
def ahO:SS:=⟨38,78,Y0,[(26,.map bB dJ)],[]⟩
def Y1:List (Nat×Sh):=[(5,.mp 26),(24,.val (.slice 48 br)),tI 25,tI 26]
def ahP:SS:=⟨38,78,Y1,[(26,.map bB dJ)],[]⟩
def ahQ:SS:=⟨38,78,[(4,.val (.map bB dJ))],[],[]⟩
def c58:aZ:=aG G [.tmp 4] 58 [.val (.slice 48 br),.val (.slice 48 br)] [] 78 ahQ [] (.bq (u2 f58))
theorem x58:hS c58:=
 cO ⟨[hE 5 [cA 0,cA 1],hE 10 [cA 0,cA 1]],[(7,ahM),(12,ahN)],[],[(3,⟨ahO,fun u2=>Int.toNat u2.2.2.1+1⟩),(8,⟨ahP,fun u7=>Int.toNat u7.2.1+1⟩)],[],[]⟩ (hq x24 (hq Yj hz)) aK Tryz.call58 Tryz.func58
def sY(l_:Nat)(Y_:ZS):Nat→Nat×Option ZD×Zo×Int×Int×YC×Nat×Nat×Ze×bz×Zb×Int×Int×Bool×Zc×Unit×Zg×Zg×Zh×Zf×Zd×Zo×ZN×ZI→Option (cJ ZL ZL):=aL fun rec9 ⟨u,s,r,q,p,v,w,x,z,aa,ab,ac,ad,ae,af,ag,ah,ai,aj,ak,al,am,t,y⟩=>if decide (p<q) then(if 0≤p then(if p<(r.length:Int) then(if(bT bB (nth bB r p) (aX s))=true then(if(aP bB dJ (nth bB r p) (aX s)).2.1=true then(if t.length+1≤aH then(if u=l_ then((Y_ (bp (p+1),some (aY dJ (aP bB dJ (nth bB r p) (aX s)) true t),v,w,x,y,())).bind fun⟨a,b,c,d,e⟩=>if !a then(bX (some (b,c,d,z,aa,ab,ac,ad,ae,af,ag,ah,ai,aj,ak,al,am,e))) else(rec9 (u,s,r,q,bp (p+1),b,c,d,z,aa,ab,ac,ad,ae,af,ag,ah,ai,aj,ak,al,am,aY dJ (aP bB dJ (nth bB r p) (aX s)) true t,e))) else none) else none) else(if u=l_ then((Y_ (bp (p+1),some (iX dJ (aP bB dJ (nth bB r p) (aX s)) t),v,w,x,y,())).bind fun⟨f,g,h,i,j⟩=>if !f then(bX (some (g,h,i,z,aa,ab,ac,ad,ae,af,ag,ah,ai,aj,ak,al,am,j))) else(rec9 (u,s,r,q,bp (p+1),g,h,i,z,aa,ab,ac,ad,ae,af,ag,ah,ai,aj,ak,al,am,iX dJ (aP bB dJ (nth bB r p) (aX s)) t,j))) else none)) else(if u=l_ then((Y_ (bp (p+1),some t,v,w,x,y,())).bind fun⟨k,l,m,n,o⟩=>if !k then(bX (some (l,m,n,z,aa,ab,ac,ad,ae,af,ag,ah,ai,aj,ak,al,am,o))) else(rec9 (u,s,r,q,bp (p+1),l,m,n,z,aa,ab,ac,ad,ae,af,ag,ah,ai,aj,ak,al,am,t,o))) else none)) else none) else none) else(some (.brk (v,w,x,z,aa,ab,ac,ad,ae,af,ag,ah,ai,aj,ak,al,am,y)))
def sZ(l_:Nat)(Y_:ZS):Nat→Nat×Option ZD×YC×Nat×Nat×ZI×Ze×bz×Zb×Int×Int×Bool×Zc×Unit×Zg×Zg×Zh×Zf×Zd×Zo×ZN×List (cL×k9)→Option ZL:=aL fun amx ⟨y,au,aa,ab,ac,ad,ae,af,ag,ah,ai,aj,ak,al,am,an,ao,ap,aq,ar,z,x⟩=>if List.isEmpty x=true then(if y=l_ then((Y_ (0,some z,aa,ab,ac,ad,())).bind fun⟨a,b,c,d,e⟩=>if !a then(some (b,c,d,ae,af,ag,ah,ai,aj,ak,al,am,an,ao,ap,aq,ar,e)) else(aI (U:=ZL) (sY l_ Y_ (Int.toNat (ar.length:Int)+1) (y,au,ar,(ar.length:Int),0,b,c,d,ae,af,ag,ah,ai,aj,ak,al,am,an,ao,ap,aq,ar,z,e)) fun⟨f,g,h,i,j,k,l,m,n,o,p,q,r,s,t,u,v,w⟩=>some (f,g,h,i,j,k,l,m,n,o,p,q,r,s,t,u,v,w))) else none) else uq x fun x13 l14=>if z.length+1≤aH then(amx (y,au,aa,ab,ac,ad,ae,af,ag,ah,ai,aj,ak,al,am,an,ao,ap,aq,ar,aY dJ (x13.1,false,()) true z,l14)) else none
def Gx(l_:Nat)(Y_:ZS)(a0:Nat)(a1:YC)(a2:Nat)(a3:Nat)(a4:ZI)(a5:Ze)(a6:bz)(a7:Zb)(a8:Int)(a9:Int)(a10:Bool)(a11:Zc)(a12:Unit)(a13:Zg)(a14:Zg)(a15:Zh)(a16:Zf)(a17:Zd)(a18:Zo):Option ZL:=
 (nG a13 a14 a5 a6 a7 a8 a9 a10 a11 a12 a16 a17 a15).bind fun⟨n,a,b,c,d,e,f,g,h,i,j,k,l,m⟩=>(nF a b c d e f g h i j k l m).bind fun⟨o,p,y,q,r,s,t,u,v,w,x,aa,ab,z⟩=>(f58 n o).bind fun y3=>sZ l_ Y_ (List.length (aX p)+1) (a0,y3,a1,a2,a3,a4,q,r,s,t,u,v,w,x,p,y,z,aa,ab,a18,([]:ZN),aX p)
def ahR:SS:=⟨60,100,[],[(0,.lp),(1,.tv (.slice 32 dJ) (.own 79)),(3,.row 3 8 (.int .i64)),(4,.var (.aT .ptr) (pP 6)),(5,fB 8 9 7),(6,.var vC (.cons (.own 3) (.cons (.val (.map aJ br)) (.cons (.val (.map aJ br)) (.cons (pP 5) .nil))))),(7,.row 110 40 aR),(8,.map aJ eE),(9,.map aR .bool),(10,.var (.slice 32 bB) (.val (.slice 32 bB))),(79,.gk 90 32 dJ)],[]⟩
def ahS:SS:=⟨60,100,[(0,.Dj),tP 2 10,(4,.val (.map bB dJ)),(5,.mp 32),tP 21 37],[(0,.lp),(1,.tv (.slice 32 dJ) (.own 2)),(2,.gk 90 32 dJ),(3,.row 3 8 (.int .i64)),(4,.var (.aT .ptr) (pP 6)),(5,fB 8 9 7),(6,.var vC (.cons (.own 3) (.cons (.val (.map aJ br)) (.cons (.val (.map aJ br)) (.cons (pP 5) .nil))))),(7,.row 110 40 aR),(8,.map aJ eE),(9,.map aR .bool),(10,.var (.slice 32 bB) (.val (.slice 32 bB))),(32,.map dJ .bool),(37,.ky aJ br)],[]⟩
def ahT:SS:=⟨60,100,[(0,.Dj),(4,.val (.map bB dJ)),(5,.mp 32),(33,.val (.slice 32 bB)),tI 34,tI 35],[(0,.lp),(1,.tv (.slice 32 dJ) (.own 78)),(3,.row 3 8 (.int .i64)),(4,.var (.aT .ptr) (pP 6)),(5,fB 8 9 7),(6,.var vC (.cons (.own 3) (.cons (.val (.map aJ br)) (.cons (.val (.map aJ br)) (.cons (pP 5) .nil))))),(7,.row 110 40 aR),(8,.map aJ eE),(9,.map aR .bool),(10,.var (.slice 32 bB) (.val (.slice 32 bB))),(32,.map dJ .bool),(78,.gk 90 32 dJ)],[]⟩
def ahU:SS:=⟨60,100,[],[(0,.lp),(1,.tv (.slice 32 dJ) (.own 80)),(3,.row 3 8 (.int .i64)),(4,.var (.aT .ptr) (pP 6)),(5,fB 8 9 7),(6,.var vC (.cons (.own 3) (.cons (.val (.map aJ br)) (.cons (.val (.map aJ br)) (.cons (pP 5) .nil))))),(7,.row 110 40 aR),(8,.map aJ eE),(9,.map aR .bool),(10,.var (.slice 32 bB) (.val (.slice 32 bB))),(80,.gk 90 32 dJ)],[]⟩
def Gy:IC:=⟨[vI,.val (.map dJ .bool)],[(0,.lp),(1,.tv (.slice 32 dJ) (.own 2)),(2,.gk 90 32 dJ)],123,0,[(1,.tv (.slice 32 dJ) (.own 107)),(107,.gk 90 32 dJ)],fun l f=>aG G [] 63 [.Dj,pP 4,pP 10] [(0,.lp),(1,.tv (.slice 32 dJ) (.own 2)),(2,.gk 90 32 dJ),(3,.row 3 8 (.int .i64)),(4,.var (.aT .ptr) (pP 6)),(5,fB 8 9 7),(6,.var vC (.cons (.own 3) (.cons (.val (.map aJ br)) (.cons (.val (.map aJ br)) (.cons (pP 5) .nil))))),(7,.row 110 40 aR),(8,.map aJ eE),(9,.map aR .bool),(10,.var (.slice 32 bB) (.val (.slice 32 bB)))] 100 ahU [0,1,3,4,5,6,7,8,9,10,80] (.bq (u19 (Gx l f)))⟩
theorem Vd:Gy.holds Tryz.prog gl:=fun B hB l f hY=>
 aZ.of tied (H:=⟨[hE 0 [cB 1 [(0,6),(1,3),(2,5),(3,8),(4,9),(5,7)] [],cB 2 [(0,6),(1,3),(2,5),(3,8),(4,9),(5,7)] [],cA 3],hE 5 [cB 0 [(0,0),(1,1),(2,2)] [(107,76)]],hE 14 [cB 0 [(0,0),(1,1),(2,78)] [(107,77)]]],[],[(2,ahR)],[(2,⟨ahS,fun u4=>List.length u4.2.2.2.2.2.2.2.2.2.2.2.2.2.2.2.2.2.2.2.2.2+1⟩),(7,⟨ahT,fun u8=>Int.toNat u8.2.2.2.1+1⟩)],[],[]⟩) (hold (l:=[IC.Y Gy l f,M6,M5,c58]) ⟨hY,BZ.up rfl (fun _ _=>trivial),Gu.up rfl (fun _ _=>trivial),x58.up rfl (fun _ _=>trivial),trivial⟩) aK rfl Tryz.call63 Tryz.func63 rfl rfl rfl rfl (fun _=>by kernel_rfl) (fun _=>by kernel_rfl)
def f40(a0:WD)(a1:WD):ZU:=
 Option.bind (α:=Bool) (if(bl aJ a0.1 a1.1)=true then(some (!(a0.2.1==a1.2.1))) else(some false)) fun v1=>if v1=true then(if a1.2.1=true then(some (-1:Int)) else(some (1:Int))) else((f41 a0.1 a1.1).bind fun y2=>some y2)
def ahV:SS:=⟨24,64,[tI 4],[],[]⟩
def c40:aZ:=aG G [.tmp 4] 40 [.val dJ,.val dJ] [] 64 ahV [] (.bq (u2 f40))
theorem x40:hS c40:=
 cO (hR [hD 1 16 [],hA 5 0]) (hq x41 hz) aK Tryz.call40 Tryz.func40
def B0(a0:ZI):Option ZI:=
 kN (fun x_ y_=>f40 x_ y_) a0
def ahW:SS:=⟨14,54,[],[(0,.row 90 32 dJ)],[]⟩
def Ve:aZ:=aG G [] 39 [.own 0,.func 40 .nil .nil] [(0,.row 90 32 dJ)] 54 ahW [0] (.bq (u1 B0))
theorem Vf:hS Ve:=
 ⟨fun d y h=>cast (by kernel_rfl) (Lj Uw (gl:=gl) trivial (tied.isAgg (t:=90) rfl) (t:=dJ) (tied.size (t:=90) rfl) Tryz.call39 Tryz.call40 rfl (cs:=EY (xV y0 [.own 0,.func 40 .nil .nil] d)) (by kernel_rfl) (by kernel_rfl) (e:=90) (bs:=32) (k:=64) (m:=54) (by decide) (c:=fun x_ y_=>f40 x_ y_) (show kN _ d.1=some y from h) fun x_ y_ r hr=>cast (by kernel_rfl) (x40.1 (x_,y_,()) r hr)),fun _ _ h=>h.elim⟩
def xI:Nat→ZN×ZI→Option (cJ ZI (Nat×Nat×ZI)):=aL fun rec6 ⟨a,b⟩=>if List.isEmpty a=true then(some (.brk b)) else uq a fun x7 l8=>tY b fun q9=>if(List.length q9+List.length [x7.1])*32≤aH then(rec6 (l8,uu (gv dJ) (q9++[x7.1]))) else none
def oF(d8_0:Zo)(y_:YC)(b8_0:Int)(b8_1:Option ZN)(yt:YC)(yj:Nat)(g1:Nat)(c8_0:ZI):Option (Bool×YC×Nat×Nat×ZI):=
 NH yt y_ (if yj=0 then(if g1=y_.gs 1 then(Option.bind (α:=Nat×Nat×ZI) (aI (U:=ZI) (if decide (b8_0<(List.length d8_0:Int)) then(some (.brk c8_0)) else(xI (List.length (aX b8_1)+1) (aX b8_1,c8_0))) fun v4=>some (0,y_.gs 1,v4)) fun r_=>if r_.2.1=y_.gs 1 then(some (Nat.beq r_.1 0,y_,r_.1,r_.2.1,r_.2.2)) else none) else none) else none)
def lY:Nat→Int×Int×Ze×bz×Zb×Int×Int×Bool×Zc×Unit×Zg×Zg×Zh×Zf×Zd×ZI×Zn→Option (cJ Zn Zn):=aL fun rec16 ⟨b,a,f,g,h,i,j,k,l,m,n,e,o,p,q,c,d⟩=>if decide (a<b) then(if 0≤a then(if a<(c.length:Int) then(if(nth dJ c a).2.1=true then(if(List.length d+List.length [aP aJ br (nth dJ c a).1 (aX e)])*48≤aH then(rec16 (b,bp (a+1),f,g,h,i,j,k,l,m,n,e,o,p,q,c,d++[aP aJ br (nth dJ c a).1 (aX e)])) else none) else(if(List.length d+List.length [aP aJ br (nth dJ c a).1 (aX n)])*48≤aH then(rec16 (b,bp (a+1),f,g,h,i,j,k,l,m,n,e,o,p,q,c,d++[aP aJ br (nth dJ c a).1 (aX n)])) else none)) else none) else none) else(some (.brk d))
def Gz(a0:bz)(a1:Ze)(a2:Int)(a3:Int)(a4:Int)(a5:Zo):Ec:=
 (fv a0 a1 a2 a3 a4).bind fun⟨a,e,f,g,h,i,j,k,m,b,c,p,n,o⟩=>if !a then(some ([]:Zn)) else(aI (U:=Ze×bz×Zb×Int×Int×Bool×Zc×Unit×Zg×Zg×Zh×Zf×Zd×ZI) ((Gw a5 b c e f g h i j k m n o p).bind fun⟨y,z,q,r,s,t,u,v,w,x,ab,ac,aa,ad⟩=>yb fun y10=>(Gx y10.l (fun d=>oF a5 y10 d.1 d.2.1 d.2.2.1 d.2.2.2.1 d.2.2.2.2.1 d.2.2.2.2.2.1) y10.l y10 0 (y10.gs 1) (uu (gv dJ) ([]:ZI)) q r s t u v w x y z aa ab ac ad).bind fun⟨ae,af,_,ag,ah,ai,aj,ak,al,am,an,ao,ap,aq,ar,au,_,av⟩=>NH ae y10 (if af=0 then(some (.brk (ag,ah,ai,aj,ak,al,am,an,ao,ap,aq,ar,au,av))) else none)) fun⟨ax,ay,az,a6,a7,a8,a9,ba,bb,bc,bd,be,bf,aw⟩=>tY aw fun q12=>(B0 q12).bind fun y13=>aI (U:=Zn) (lY (Int.toNat (y13.length:Int)+1) ((y13.length:Int),0,ax,ay,az,a6,a7,a8,a9,ba,bb,bc,bd,be,bf,y13,([]:Zn))) fun v14=>some v14)
def ahX:SS:=⟨83,123,[(12,.bn),tP 13 100,tP 15 31],[(31,.var (.slice 32 dJ) (.own 111)),(43,.row 3 8 (.int .i64)),(99,fB 102 103 101),(100,.var vC (.cons (.own 43) (.cons (.val (.map aJ br)) (.cons (.val (.map aJ br)) (.cons (pP 99) .nil))))),(101,.row 110 40 aR),(102,.map aJ eE),(103,.map aR .bool),(109,.uM),(111,.gk 90 32 dJ)],[.mp 109]⟩
def ahY:SS:=⟨83,123,[(12,.own 113)],[(109,.uM),(113,.row 50 48 br)],[.mp 109]⟩
def Y2:SS:=⟨83,123,[],[(1,.var (.slice 32 dJ) (.own 107)),(107,.gk 90 32 dJ)],[]⟩
def ahZ:SS:=⟨83,123,[tP 15 1,tP 42 58],[(1,.var (.slice 32 dJ) (.own 106)),(58,.ky dJ .bool),(106,.gk 90 32 dJ)],[]⟩
def ah0:SS:=⟨83,123,[(12,.own 112),tP 13 100,(53,.own 111),tI 54,tI 55],[(43,.row 3 8 (.int .i64)),(99,fB 102 103 101),(100,.var vC (.cons (.own 43) (.cons (.val (.map aJ br)) (.cons (.val (.map aJ br)) (.cons (pP 99) .nil))))),(101,.row 110 40 aR),(102,.map aJ eE),(103,.map aR .bool),(109,.uM),(111,.row 90 32 dJ),(112,.row 50 48 br)],[.mp 109]⟩
def ah1:SS:=⟨83,123,[(11,.cd (.slice 32 bB)),(12,.bn),tP 13 100,tP 15 31,(34,.func 63 .nil (.cons (pP 50) (.cons (pP 105) .nil)))],[(31,.var (.slice 32 dJ) (.own 108)),(43,.row 3 8 (.int .i64)),(50,.var (.aT .ptr) (pP 100)),(99,fB 102 103 101),(100,.var vC (.cons (.own 43) (.cons (.val (.map aJ br)) (.cons (.val (.map aJ br)) (.cons (pP 99) .nil))))),(101,.row 110 40 aR),(102,.map aJ eE),(103,.map aR .bool),(105,.var (.slice 32 bB) (.val (.slice 32 bB))),(108,.gk 90 32 dJ)],[]⟩
def R0:SS:=⟨83,123,[(12,.val (.slice 48 br))],[],[]⟩
def Vg:aZ:=aG G [.tmp 12] 13 [.val fF,.val (.slice 8 (.int .i64)),vI,vI,vI,.val (.slice 32 bB)] [] 123 R0 [] (.bq (u6 Gz))
theorem Vh:hS Vg:=
 cO ⟨[hE 1 [cB 0 [] [(41,43),(45,99),(47,100),(82,101),(88,102),(89,103)]],(5,⟨[.freeze 27 (.slice 1 (.int .u8)),.sK 31 [] 104 90 32 dJ,.NJ 104],[],[⟨[1],[(0,100),(1,43),(2,99),(3,102),(4,103),(5,101)],[(18,50),(19,105)],[],[]⟩],none,[],[],[]⟩),(12,⟨[],[],[],none,[],[.Wy 106],[.NJ 66]⟩),(13,⟨[],[],[⟨[2],[(0,111)],[],[],[]⟩],none,[],[.Wy 111],[]⟩)],[(13,ahX),(21,ahY)],[(1,Y2)],[(10,⟨ahZ,fun u5=>List.length u5.1+1⟩),(15,⟨ah0,fun u15=>Int.toNat u15.1+1⟩)],[],[(8,⟨0,109,110,[(1,.slice 32 dJ)],[(31,1)],[],[(0,110),(1,31),(2,108),(3,43),(4,50),(5,99),(6,100),(7,101),(8,102),(9,103),(10,105)],[(80,111)],ah1,Y2⟩)]⟩ (hq pN (hq Vc (hq Vf hz))) (DB (L:=[Gy]) ⟨Vd,trivial⟩) Tryz.call13 Tryz.func13
end Go.Proofs.YtpmlkhjpbjnagaaGreat
