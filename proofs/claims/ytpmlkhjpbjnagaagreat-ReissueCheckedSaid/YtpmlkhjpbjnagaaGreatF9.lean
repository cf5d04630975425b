/- part -/
import Derived.Test.YtpmlkhjpbjnagaaGreatUW
import Derived.Test.YtpmlkhjpbjnagaaGreatY1
import Derived.Test.YtpmlkhjpbjnagaaGreatA5
noncomputable section
namespace Go.Proofs.YtpmlkhjpbjnagaaGreat
open Go.Ax
def pF(a0:Zg)(a1:Zg)(a2:Zf)(a3:bz)(a4:Zb)(a5:Int)(a6:Int)(a7:Bool)(a8:Zc)(a9:Unit)(a10:Ze)(a11:Zd)(a12:Zh):Option (Zl×Rz):=
 (DH a1 a0).bind fun y1=>some (y1,a0,a1,a2,a3,a4,a5,a6,a7,a8,a9,a10,a11,a12)
def WC:List (Nat×db):=[(0,.var uZ (.cons (.own 1) (.cons (.val (.map aK bp)) (.cons (.val (.map aK bp)) (.cons (pP 2) .nil))))),(1,.row 3 8 (.int .i64)),(2,fB 3 4 5),(3,.map aK eE),(4,.map aR .bool),(5,.row 110 40 aR)]
def ahh:SS:=⟨12,52,[(2,.val (.slice 48 bp))],WC,[]⟩
def MT:aZ:=aF G [.tmp 2] 23 [pP 0] WC 52 ahh [0,1,2,3,4,5] (.br (IB pF))
theorem Gj:hS MT:=
 cO (hR [hA 1 0]) (hq Pq hz) aJ Tryz.call23 Tryz.func23
def f24(a0:Int)(a1:l7):Option UJ:=
 some (a0,a1.1,a1.2.1,a1.2.2.1,())
def ahi:SS:=⟨13,53,[tP 4 20],[(20,bV bC)],[]⟩
def c24:aZ:=aF G [.cell 4 44] 24 [vI,.val bp] [] 53 ahi [] (.br (u2 f24))
theorem x24:hS c24:=
 cO (hR []) hz aJ Tryz.call24 Tryz.func24
def pI(a0:Zg)(a1:Zg)(a2:Zf)(a3:bz)(a4:Zb)(a5:Int)(a6:Int)(a7:Bool)(a8:Zc)(a9:Unit)(a10:Ze)(a11:Zd)(a12:Zh):Option (Zl×Rz):=
 (DH a0 a1).bind fun y1=>some (y1,a0,a1,a2,a3,a4,a5,a6,a7,a8,a9,a10,a11,a12)
def ahk:SS:=⟨12,52,[(2,.val (.slice 48 bp))],WC,[]⟩
def MU:aZ:=aF G [.tmp 2] 25 [pP 0] WC 52 ahk [0,1,2,3,4,5] (.br (IB pI))
theorem BL:hS MU:=
 cO (hR [hA 1 0]) (hq Pq hz) aJ Tryz.call25 Tryz.func25
def Gk(a0:UJ)(a1:UJ)(a2:Int)(a3:Zf)(_a4:Zg)(_a5:Zg):ZV:=
 if 0≤a0.2.1 then(if a0.2.1<(a3.length:Int) then(if 0≤a1.2.1 then(if a1.2.1<(a3.length:Int) then((f30 (nth (.int .i64) a3 a0.2.1) (nth (.int .i64) a3 a1.2.1)).bind fun y1=>(f30 a0.2.2.1 a1.2.2.1).bind fun y2=>(f30 a0.2.2.2.1 a1.2.2.2.1).bind fun y3=>(f29 [bq (a2*y1),y2,y3]).bind fun y4=>some y4) else none) else none) else none) else none
def ahl:SS:=⟨38,78,[tI 6],[],[]⟩
def UW:aZ:=aF G [.tmp 6] 28 [.val bC,.val bC,.cc (.int .i64),.ir (.ir (.cons (.val (.slice 8 (.int .i64))) (.cons (.val (.map aK bp)) (.cons (.val (.map aK bp)) (.cons (.dH (.aT .ptr)) .nil)))))] [] 78 ahl [] (.br (u6 Gk))
theorem UX:hS UW:=
 cO (hR [hE 1 [cA 0,cA 0,cA 0,cA 1]]) (hq x30 (hq x29 hz)) aJ Tryz.call28 Tryz.func28
def MV(a0:Int)(a1:Zf)(a2:Zg)(a3:Zg)(a4:Zp):Option Zp:=
 kJ (fun x_ y_=>Gk x_ y_ a0 a1 a2 a3) a4
def ahm:SS:=⟨14,54,[],[(0,.row 44 32 bC)],[]⟩
def UY:aZ:=aF G [] 27 [.own 0,.func 28 .nil (.cons (.cc (.int .i64)) (.cons (.ir (.ir (.cons (.val (.slice 8 (.int .i64))) (.cons (.val (.map aK bp)) (.cons (.val (.map aK bp)) (.cons (.dH (.aT .ptr)) .nil)))))) .nil))] [(0,.row 44 32 bC)] 54 ahm [0] (.br (u5 MV))
theorem UZ:hS UY:=
 ⟨fun d y h=>cast (by kernel_rfl) (Lc Un (gl:=gl) trivial (tied.isAgg (t:=44) rfl) (t:=bC) (tied.size (t:=44) rfl) Tryz.call27 Tryz.call28 rfl (cs:=EN (xG y0 [.own 0,.func 28 .nil (.cons (.cc (.int .i64)) (.cons (.ir (.ir (.cons (.val (.slice 8 (.int .i64))) (.cons (.val (.map aK bp)) (.cons (.val (.map aK bp)) (.cons (.dH (.aT .ptr)) .nil)))))) .nil))] d)) (by kernel_rfl) (by kernel_rfl) (e:=44) (bs:=32) (k:=78) (m:=54) (by decide) (c:=fun x_ y_=>Gk x_ y_ d.1 d.2.1 d.2.2.1 d.2.2.2.1) (show kJ _ d.2.2.2.2.1=some y from h) fun x_ y_ r hr=>cast (by kernel_rfl) (UX.1 (x_,y_,d.1,d.2.1,d.2.2.1,d.2.2.2.1,()) r hr)),fun _ _ h=>h.elim⟩
def Gl(a0:Int)(a1:Zf)(a2:Zg)(a3:Zg)(a4:Zp):Option Zp:=
 (MV a0 a1 a2 a3 a4).bind fun y1=>some y1
def ahn:SS:=⟨8,48,[],[(0,.row 44 32 bC)],[]⟩
def U0:aZ:=aF G [] 26 [.own 0,vI,.ir (.ir (.cons (.val (.slice 8 (.int .i64))) (.cons (.val (.map aK bp)) (.cons (.val (.map aK bp)) (.cons (.dH (.aT .ptr)) .nil)))))] [(0,.row 44 32 bC)] 48 ahn [0] (.br (u5 Gl))
theorem U1:hS U0:=
 cO (hR [hE 1 [cB 0 [(0,0)] []]]) (hq UZ hz) aJ Tryz.call26 Tryz.func26
def MW:Nat→Zl×Int×Int×Zar→Option (cK Zar Zp):=aL fun amE ⟨c,b,a,e,f,g,h,i,j,k,l,m,n,o,p,q,d⟩=>if decide (a<b) then(if 0≤a then(if a<(c.length:Int) then((f24 (1:Int) (nth bp c a)).bind fun y6=>if(List.length d+List.length [y6])*32≤aH then(amE (c,b,bq (a+1),e,f,g,h,i,j,k,l,m,n,o,p,q,d++[y6])) else none) else none) else none) else(some (.brk (e,f,g,h,i,j,k,l,m,n,o,p,q,d)))
def JE:Nat→Zl×Int×Int×Zap→Option (cK Zap Zp):=aL fun rec10 ⟨c,b,a,e,f,g,h,i,j,k,l,m,n,o,p,q,r,d⟩=>if decide (a<b) then(if 0≤a then(if a<(c.length:Int) then((f24 (2:Int) (nth bp c a)).bind fun y11=>if(List.length d+List.length [y11])*32≤aH then(rec10 (c,b,bq (a+1),e,f,g,h,i,j,k,l,m,n,o,p,q,r,d++[y11])) else none) else none) else none) else(some (.brk (e,f,g,h,i,j,k,l,m,n,o,p,q,r,d)))
def SY(a0:bz)(a1:Zf)(a2:Int)(a3:Int)(a4:Int):Option Zp:=
 (fV a0 a1 a2 a3 a4).bind fun⟨a,d,e,f,g,h,i,j,k,b,c,n,l,m⟩=>if !a then(some ([]:Zp)) else(aI (U:=Zar) ((pF b c d e f g h i j k l m n).bind fun⟨o,x,y,p,q,r,s,t,u,v,w,aa,ab,z⟩=>MW (Int.toNat (o.length:Int)+1) (o,(o.length:Int),0,p,q,r,s,t,u,v,w,x,y,z,aa,ab,([]:Zp))) fun⟨ae,af,ag,ah,ai,aj,ak,al,ac,ad,ao,am,an,ap⟩=>aI (U:=Zap) ((pI ac ad ae af ag ah ai aj ak al am an ao).bind fun⟨aq,a6,a7,ar,au,av,aw,ax,ay,az,a5,a9,ba,a8⟩=>JE (Int.toNat (aq.length:Int)+1) (aq,(aq.length:Int),0,ar,au,av,aw,ax,ay,az,a5,a6,a7,a8,a9,ba,ap,([]:Zp))) fun⟨bb,_,_,_,_,_,_,_,bc,bd,_,_,_,be,bf⟩=>(Gl (1:Int) bb bc bd be).bind fun y12=>(Gl (-1:Int) bb bc bd bf).bind fun y13=>if(List.length y12+y13.length)*32≤aH then(some (y12++y13)) else none)
def aho:SS:=⟨66,106,[(10,.own 88),tP 11 27,(13,.bn)],[(27,.var (.aT .ptr) (pP 83)),(41,.row 3 8 (.int .i64)),(82,fB 85 86 84),(83,.var uZ (.cons (.own 41) (.cons (.val (.map aK bp)) (.cons (.val (.map aK bp)) (.cons (pP 82) .nil))))),(84,.row 110 40 aR),(85,.map aK eE),(86,.map aR .bool),(88,.row 44 32 bC)],[]⟩
def ahp:SS:=⟨66,106,[(10,.own 88),tP 11 27,(13,.own 90)],[(27,.var (.aT .ptr) (pP 83)),(41,.row 3 8 (.int .i64)),(82,fB 85 86 84),(83,.var uZ (.cons (.own 41) (.cons (.val (.map aK bp)) (.cons (.val (.map aK bp)) (.cons (pP 82) .nil))))),(84,.row 110 40 aR),(85,.map aK eE),(86,.map aR .bool),(88,.row 44 32 bC),(90,.row 44 32 bC)],[]⟩
def ahq:SS:=⟨66,106,[(10,.own 87),tP 11 27,(13,.bn),(31,.val (.slice 48 bp)),tI 32,tI 33],[(27,.var (.aT .ptr) (pP 83)),(41,.row 3 8 (.int .i64)),(82,fB 85 86 84),(83,.var uZ (.cons (.own 41) (.cons (.val (.map aK bp)) (.cons (.val (.map aK bp)) (.cons (pP 82) .nil))))),(84,.row 110 40 aR),(85,.map aK eE),(86,.map aR .bool),(87,.row 44 32 bC)],[]⟩
def ahr:SS:=⟨66,106,[(10,.own 88),tP 11 27,(13,.own 89),(44,.val (.slice 48 bp)),tI 45,tI 46],[(27,.var (.aT .ptr) (pP 83)),(41,.row 3 8 (.int .i64)),(82,fB 85 86 84),(83,.var uZ (.cons (.own 41) (.cons (.val (.map aK bp)) (.cons (.val (.map aK bp)) (.cons (pP 82) .nil))))),(84,.row 110 40 aR),(85,.map aK eE),(86,.map aR .bool),(88,.row 44 32 bC),(89,.row 44 32 bC)],[]⟩
def U2:SS:=⟨66,106,[(10,.val (.slice 32 bC))],[],[]⟩
def Yw:aZ:=aF G [.tmp 10] 9 [.val fE,.val (.slice 8 (.int .i64)),vI,vI,vI] [] 106 U2 [] (.br (u5 SY))
theorem Yx:hS Yw:=
 cO ⟨[hE 1 [cB 0 [] [(41,41),(45,82),(47,83),(82,84),(88,85),(89,86)]],hE 5 [cB 1 [(0,83),(1,41),(2,82),(3,85),(4,86),(5,84)] []],hA 8 2,hE 10 [cB 3 [(0,83),(1,41),(2,82),(3,85),(4,86),(5,84)] []],hA 13 2,hE 16 [⟨[4],[(0,88)],[],[],[83,41,82]⟩],hE 17 [⟨[4],[(0,90)],[],[],[83,41,82]⟩]],[(10,aho),(15,ahp)],[],[(6,⟨ahq,fun u4=>Int.toNat u4.2.1+1⟩),(11,⟨ahr,fun u9=>Int.toNat u9.2.1+1⟩)],[],[]⟩ (hq pw (hq Gj (hq x24 (hq BL (hq U1 hz))))) aJ Tryz.call9 Tryz.func9
def ja(a0:bz)(a1:Zf)(a2:Int)(_a3:Int)(_a4:Int):Zm:=
 (f50 a0.1 a1 a2).bind fun y1=>if !y1 then(some false) else none
def ahs:SS:=⟨72,112,[(10,.eM),(11,vB)],[],[]⟩
def U3:aZ:=aF G [.tmp 10,.tmp 11] 22 [.val fE,.val (.slice 8 (.int .i64)),vI,vI,vI] [] 112 ahs [] (.br (u5 ja))
theorem pJ:hS U3:=
 cO (hR [hA 1 0,(3,⟨[],[],[],none,[(0,9999)],[],[]⟩)]) (hq x50 hz) aJ Tryz.call22 Tryz.func22
def SZ(a0:bz)(a1:Zf)(a2:Int)(a3:Int)(a4:Int):Option Zp:=
 (ja a0 a1 a2 a3 a4).bind fun y1=>if !y1 then(some ([]:Zp)) else none
def Yy:aZ:=aF G [.tmp 10] 9 [.val fE,.val (.slice 8 (.int .i64)),vI,vI,vI] [] 106 U2 [] (.br (u5 SZ))
theorem Yz:hS Yy:=
 cO (hR [hA 1 0,(4,⟨[],[],[],none,[(0,9999)],[],[]⟩)]) (hq pJ hz) aJ Tryz.call9 Tryz.func9
def f9(a0:bz)(a1:Zf)(a2:Int)(a3:Int)(a4:Int):Option Zp:=
 Pe (SY a0 a1 a2 a3 a4) (SZ a0 a1 a2 a3 a4)
def c9:aZ:=aF G [.tmp 10] 9 [.val fE,.val (.slice 8 (.int .i64)),vI,vI,vI] [] 106 U2 [] (.br (u5 f9))
theorem x9:hS c9:=aZ.or Yx Yz
def U4:Nat→Zp×Zp×Int→Zs:=aL fun amb ⟨b,c,a⟩=>if decide (a<(b.length:Int)) then(if 0≤a then(if a<(b.length:Int) then(if 0≤a then(if a<(c.length:Int) then(if !bl bC (nth bC b a) (nth bC c a) then none else(amb (b,c,bq (a+1)))) else none) else none) else none) else none) else(some (.brk ()))
def f19(a0:Zp)(a1:Zp):Zm:=
 if !decide ((a0.length:Int)=(a1.length:Int)) then none else(aI (U:=Unit) (U4 iw (a0,a1,0)) fun _=>some true)
def aht:SS:=⟨26,66,[],[],[]⟩
def ahu:SS:=⟨26,66,[(0,.val (.slice 32 bC)),(1,.val (.slice 32 bC)),tI 5],[],[]⟩
def ahv:SS:=⟨26,66,[(4,vB)],[],[]⟩
def c19:aZ:=aF G [.tmp 4] 19 [.val (.slice 32 bC),.val (.slice 32 bC)] [] 66 ahv [] (.br (u2 f19))
theorem x19:hS c19:=
 cO ⟨[(2,⟨[],[],[],none,[(0,9999)],[],[]⟩),(7,⟨[],[],[],none,[(0,9999)],[],[]⟩)],[(8,aht)],[],[(4,⟨ahu,fun _=>iw⟩)],[],[]⟩ hz aJ Tryz.call19 Tryz.func19
def Gm(a0:Zp)(a1:Zg)(a2:Zg)(a3:Zf)(a4:bz)(a5:Zb)(a6:Int)(a7:Int)(a8:Bool)(a9:Zc)(a10:Unit)(a11:Ze)(a12:Zd)(a13:Zh):Option (Zg×Zg×Zf×bz×Zb×Int×Int×Bool×Zc×Unit×Ze×Zd×Zh×Zp):=
 some (a1,a2,a3,a4,a5,a6,a7,a8,a9,a10,a11,a12,a13,a0)
def ahw:SS:=⟨6,46,[(4,.func 63 .nil (.cons (pP 18) (.cons (pP 19) .nil)))],[(0,.var uZ (.cons (.own 1) (.cons (.val (.map aK bp)) (.cons (.val (.map aK bp)) (.cons (pP 2) .nil))))),(1,.row 3 8 (.int .i64)),(2,fB 3 4 5),(3,.map aK eE),(4,.map aR .bool),(5,.row 110 40 aR),(18,.var (.aT .ptr) (pP 0)),(19,.var (.slice 32 bC) (.val (.slice 32 bC)))],[]⟩
def U5:aZ:=aF G [.tmp 4] 38 [pP 0,.val (.slice 32 bC)] WC 46 ahw [0,1,2,3,4,5,18,19] (.br (UK Gm))
theorem U6:hS U5:=
 cO (hR []) hz aJ Tryz.call38 Tryz.func38
def MZ:Nat→Zl×Zl×Int×Int×ZD→Option (cK (Zl×ZD) (Option ZD)):=aL fun amb ⟨e,c,b,a,d⟩=>if decide (a<b) then(if 0≤a then(if a<(c.length:Int) then((f24 (2:Int) (nth bp c a)).bind fun y4=>(f52 (nth bp c a)).bind fun y5=>if d.length+1≤aH then(amb (e,c,b,bq (a+1),aX bC y4 (y5,false,()) d)) else none) else none) else none) else(some (.brk (e,d)))
def M0:Nat→Zl×Int×Int×ZD→Option (cK ZD (Option ZD)):=aL fun rec8 ⟨c,b,a,d⟩=>if decide (a<b) then(if 0≤a then(if a<(c.length:Int) then((f24 (1:Int) (nth bp c a)).bind fun y9=>(f52 (nth bp c a)).bind fun y10=>if d.length+1≤aH then(rec8 (c,b,bq (a+1),aX bC y9 (y10,true,()) d)) else none) else none) else none) else(some (.brk d))
def f58(a0:Zl)(a1:Zl):Option (Option ZD):=
 aI (U:=Zl×ZD) (MZ (Int.toNat (a0.length:Int)+1) (a1,a0,(a0.length:Int),0,([]:ZD))) fun⟨a,b⟩=>aI (U:=ZD) (M0 (Int.toNat (a.length:Int)+1) (a,(a.length:Int),0,b)) fun v6=>some (some v6)
def YA:List (Nat×Sh):=[(1,.val (.slice 48 bp)),(5,.mp 26)]
def ahx:SS:=⟨38,78,YA,[(26,.map bC dG)],[]⟩
def ahy:SS:=⟨38,78,[(5,.mp 26)],[(26,.map bC dG)],[]⟩
def YB:List (Nat×Sh):=[(1,.val (.slice 48 bp)),(5,.mp 26),(11,.val (.slice 48 bp)),tI 12,tI 13]
def ahz:SS:=⟨38,78,YB,[(26,.map bC dG)],[]⟩
def YD:List (Nat×Sh):=[(5,.mp 26),(24,.val (.slice 48 bp)),tI 25,tI 26]
def ahA:SS:=⟨38,78,YD,[(26,.map bC dG)],[]⟩
def ahB:SS:=⟨38,78,[(4,.val (.map bC dG))],[],[]⟩
def c58:aZ:=aF G [.tmp 4] 58 [.val (.slice 48 bp),.val (.slice 48 bp)] [] 78 ahB [] (.br (u2 f58))
theorem x58:hS c58:=
 cO ⟨[hE 5 [cA 0,cA 1],hE 10 [cA 0,cA 1]],[(7,ahx),(12,ahy)],[],[(3,⟨ahz,fun u2=>Int.toNat u2.2.2.1+1⟩),(8,⟨ahA,fun u7=>Int.toNat u7.2.1+1⟩)],[],[]⟩ (hq x24 (hq XS hz)) aJ Tryz.call58 Tryz.func58
def sJ(l_:Nat)(Y_:ZS):Nat→Nat×Option ZD×Zp×Int×Int×YC×Nat×Nat×Zf×bz×Zb×Int×Int×Bool×Zc×Unit×Zg×Zg×Zh×Ze×Zd×Zp×ZN×ZI→Option (cK ZL ZL):=aL fun rec9 ⟨u,s,r,q,p,v,w,x,z,aa,ab,ac,ad,ae,af,ag,ah,ai,aj,ak,al,am,t,y⟩=>if decide (p<q) then(if 0≤p then(if p<(r.length:Int) then(if(bT bC (nth bC r p) (aY s))=true then(if(aQ bC dG (nth bC r p) (aY s)).2.1=true then(if t.length+1≤aH then(if u=l_ then((Y_ (bq (p+1),some (aX dG (aQ bC dG (nth bC r p) (aY s)) true t),v,w,x,y,())).bind fun⟨a,b,c,d,e⟩=>if !a then(bU (some (b,c,d,z,aa,ab,ac,ad,ae,af,ag,ah,ai,aj,ak,al,am,e))) else(rec9 (u,s,r,q,bq (p+1),b,c,d,z,aa,ab,ac,ad,ae,af,ag,ah,ai,aj,ak,al,am,aX dG (aQ bC dG (nth bC r p) (aY s)) true t,e))) else none) else none) else(if u=l_ then((Y_ (bq (p+1),some (iU dG (aQ bC dG (nth bC r p) (aY s)) t),v,w,x,y,())).bind fun⟨f,g,h,i,j⟩=>if !f then(bU (some (g,h,i,z,aa,ab,ac,ad,ae,af,ag,ah,ai,aj,ak,al,am,j))) else(rec9 (u,s,r,q,bq (p+1),g,h,i,z,aa,ab,ac,ad,ae,af,ag,ah,ai,aj,ak,al,am,iU dG (aQ bC dG (nth bC r p) (aY s)) t,j))) else none)) else(if u=l_ then((Y_ (bq (p+1),some t,v,w,x,y,())).bind fun⟨k,l,m,n,o⟩=>if !k then(bU (some (l,m,n,z,aa,ab,ac,ad,ae,af,ag,ah,ai,aj,ak,al,am,o))) else(rec9 (u,s,r,q,bq (p+1),l,m,n,z,aa,ab,ac,ad,ae,af,ag,ah,ai,aj,ak,al,am,t,o))) else none)) else none) else none) else(some (.brk (v,w,x,z,aa,ab,ac,ad,ae,af,ag,ah,ai,aj,ak,al,am,y)))
def sK(l_:Nat)(Y_:ZS):Nat→Nat×Option ZD×YC×Nat×Nat×ZI×Zf×bz×Zb×Int×Int×Bool×Zc×Unit×Zg×Zg×Zh×Ze×Zd×Zp×ZN×List (cM×l7)→Option ZL:=aL fun amE ⟨y,au,aa,ab,ac,ad,ae,af,ag,ah,ai,aj,ak,al,am,an,ao,ap,aq,ar,z,x⟩=>if List.isEmpty x=true then(if y=l_ then((Y_ (0,some z,aa,ab,ac,ad,())).bind fun⟨a,b,c,d,e⟩=>if !a then(some (b,c,d,ae,af,ag,ah,ai,aj,ak,al,am,an,ao,ap,aq,ar,e)) else(aI (U:=ZL) (sJ l_ Y_ (Int.toNat (ar.length:Int)+1) (y,au,ar,(ar.length:Int),0,b,c,d,ae,af,ag,ah,ai,aj,ak,al,am,an,ao,ap,aq,ar,z,e)) fun⟨f,g,h,i,j,k,l,m,n,o,p,q,r,s,t,u,v,w⟩=>some (f,g,h,i,j,k,l,m,n,o,p,q,r,s,t,u,v,w))) else none) else tY x fun x13 l14=>if z.length+1≤aH then(amE (y,au,aa,ab,ac,ad,ae,af,ag,ah,ai,aj,ak,al,am,an,ao,ap,aq,ar,aX dG (x13.1,false,()) true z,l14)) else none
def Gn(l_:Nat)(Y_:ZS)(a0:Nat)(a1:YC)(a2:Nat)(a3:Nat)(a4:ZI)(a5:Zf)(a6:bz)(a7:Zb)(a8:Int)(a9:Int)(a10:Bool)(a11:Zc)(a12:Unit)(a13:Zg)(a14:Zg)(a15:Zh)(a16:Ze)(a17:Zd)(a18:Zp):Option ZL:=
 (pI a13 a14 a5 a6 a7 a8 a9 a10 a11 a12 a16 a17 a15).bind fun⟨n,a,b,c,d,e,f,g,h,i,j,k,l,m⟩=>(pF a b c d e f g h i j k l m).bind fun⟨o,p,y,q,r,s,t,u,v,w,x,aa,ab,z⟩=>(f58 n o).bind fun y3=>sK l_ Y_ (List.length (aY p)+1) (a0,y3,a1,a2,a3,a4,q,r,s,t,u,v,w,x,p,y,z,aa,ab,a18,([]:ZN),aY p)
def ahC:SS:=⟨60,100,[],[(0,.lp),(1,.tv (.slice 32 dG) (.own 79)),(3,.row 3 8 (.int .i64)),(4,.var (.aT .ptr) (pP 6)),(5,fB 8 9 7),(6,.var uZ (.cons (.own 3) (.cons (.val (.map aK bp)) (.cons (.val (.map aK bp)) (.cons (pP 5) .nil))))),(7,.row 110 40 aR),(8,.map aK eE),(9,.map aR .bool),(10,.var (.slice 32 bC) (.val (.slice 32 bC))),(79,.fZ 90 32 dG)],[]⟩
def ahD:SS:=⟨60,100,[(0,.C9),tP 2 10,(4,.val (.map bC dG)),(5,.mp 32),tP 21 37],[(0,.lp),(1,.tv (.slice 32 dG) (.own 2)),(2,.fZ 90 32 dG),(3,.row 3 8 (.int .i64)),(4,.var (.aT .ptr) (pP 6)),(5,fB 8 9 7),(6,.var uZ (.cons (.own 3) (.cons (.val (.map aK bp)) (.cons (.val (.map aK bp)) (.cons (pP 5) .nil))))),(7,.row 110 40 aR),(8,.map aK eE),(9,.map aR .bool),(10,.var (.slice 32 bC) (.val (.slice 32 bC))),(32,.map dG .bool),(37,.kq aK bp)],[]⟩
def ahE:SS:=⟨60,100,[(0,.C9),(4,.val (.map bC dG)),(5,.mp 32),(33,.val (.slice 32 bC)),tI 34,tI 35],[(0,.lp),(1,.tv (.slice 32 dG) (.own 78)),(3,.row 3 8 (.int .i64)),(4,.var (.aT .ptr) (pP 6)),(5,fB 8 9 7),(6,.var uZ (.cons (.own 3) (.cons (.val (.map aK bp)) (.cons (.val (.map aK bp)) (.cons (pP 5) .nil))))),(7,.row 110 40 aR),(8,.map aK eE),(9,.map aR .bool),(10,.var (.slice 32 bC) (.val (.slice 32 bC))),(32,.map dG .bool),(78,.fZ 90 32 dG)],[]⟩
def ahF:SS:=⟨60,100,[],[(0,.lp),(1,.tv (.slice 32 dG) (.own 80)),(3,.row 3 8 (.int .i64)),(4,.var (.aT .ptr) (pP 6)),(5,fB 8 9 7),(6,.var uZ (.cons (.own 3) (.cons (.val (.map aK bp)) (.cons (.val (.map aK bp)) (.cons (pP 5) .nil))))),(7,.row 110 40 aR),(8,.map aK eE),(9,.map aR .bool),(10,.var (.slice 32 bC) (.val (.slice 32 bC))),(80,.fZ 90 32 dG)],[]⟩
def Gp:IC:=⟨[vI,.val (.map dG .bool)],[(0,.lp),(1,.tv (.slice 32 dG) (.own 2)),(2,.fZ 90 32 dG)],123,0,[(1,.tv (.slice 32 dG) (.own 107)),(107,.fZ 90 32 dG)],fun l f=>aF G [] 63 [.C9,pP 4,pP 10] [(0,.lp),(1,.tv (.slice 32 dG) (.own 2)),(2,.fZ 90 32 dG),(3,.row 3 8 (.int .i64)),(4,.var (.aT .ptr) (pP 6)),(5,fB 8 9 7),(6,.var uZ (.cons (.own 3) (.cons (.val (.map aK bp)) (.cons (.val (.map aK bp)) (.cons (pP 5) .nil))))),(7,.row 110 40 aR),(8,.map aK eE),(9,.map aR .bool),(10,.var (.slice 32 bC) (.val (.slice 32 bC)))] 100 ahF [0,1,3,4,5,6,7,8,9,10,80] (.br (u19 (Gn l f)))⟩
theorem U7:Gp.holds Tryz.prog gl:=fun B hB l f hY=>
 aZ.of tied (H:=⟨[hE 0 [cB 1 [(0,6),(1,3),(2,5),(3,8),(4,9),(5,7)] [],cB 2 [(0,6),(1,3),(2,5),(3,8),(4,9),(5,7)] [],cA 3],hE 5 [cB 0 [(0,0),(1,1),(2,2)] [(107,76)]],hE 14 [cB 0 [(0,0),(1,1),(2,78)] [(107,77)]]],[],[(2,ahC)],[(2,⟨ahD,fun u4=>List.length u4.2.2.2.2.2.2.2.2.2.2.2.2.2.2.2.2.2.2.2.2.2+1⟩),(7,⟨ahE,fun u8=>Int.toNat u8.2.2.2.1+1⟩)],[],[]⟩) (hold (l:=[IC.Y Gp l f,MU,MT,c58]) ⟨hY,BL.up rfl (fun _ _=>trivial),Gj.up rfl (fun _ _=>trivial),x58.up rfl (fun _ _=>trivial),trivial⟩) aJ rfl Tryz.call63 Tryz.func63 rfl rfl rfl rfl (fun _=>by kernel_rfl) (fun _=>by kernel_rfl)
def f40(a0:Wy)(a1:Wy):ZV:=
 Option.bind (α:=Bool) (if(bl aK a0.1 a1.1)=true then(some (!(a0.2.1==a1.2.1))) else(some false)) fun v1=>if v1=true then(if a1.2.1=true then(some (-1:Int)) else(some (1:Int))) else((f41 a0.1 a1.1).bind fun y2=>some y2)
def ahG:SS:=⟨24,64,[tI 4],[],[]⟩
def c40:aZ:=aF G [.tmp 4] 40 [.val dG,.val dG] [] 64 ahG [] (.br (u2 f40))
theorem x40:hS c40:=
 cO (hR [hD 1 16 [],hA 5 0]) (hq x41 hz) aJ Tryz.call40 Tryz.func40
def BM(a0:ZI):Option ZI:=
 kJ (fun x_ y_=>f40 x_ y_) a0
def ahH:SS:=⟨14,54,[],[(0,.row 90 32 dG)],[]⟩
def U8:aZ:=aF G [] 39 [.own 0,.func 40 .nil .nil] [(0,.row 90 32 dG)] 54 ahH [0] (.br (u1 BM))
theorem U9:hS U8:=
 ⟨fun d y h=>cast (by kernel_rfl) (Lc Um (gl:=gl) trivial (tied.isAgg (t:=90) rfl) (t:=dG) (tied.size (t:=90) rfl) Tryz.call39 Tryz.call40 rfl (cs:=EN (xG y0 [.own 0,.func 40 .nil .nil] d)) (by kernel_rfl) (by kernel_rfl) (e:=90) (bs:=32) (k:=64) (m:=54) (by decide) (c:=fun x_ y_=>f40 x_ y_) (show kJ _ d.1=some y from h) fun x_ y_ r hr=>cast (by kernel_rfl) (x40.1 (x_,y_,()) r hr)),fun _ _ h=>h.elim⟩
def xr:Nat→ZN×ZI→Option (cK ZI (Nat×Nat×ZI)):=aL fun rec6 ⟨a,b⟩=>if List.isEmpty a=true then(some (.brk b)) else tY a fun x7 l8=>tK b fun q9=>if(List.length q9+List.length [x7.1])*32≤aH then(rec6 (l8,ua (gq dG) (q9++[x7.1]))) else none
def oh(d8_0:Zp)(y_:YC)(b8_0:Int)(b8_1:Option ZN)(yt:YC)(yj:Nat)(g1:Nat)(c8_0:ZI):Option (Bool×YC×Nat×Nat×ZI):=
 NC yt y_ (if yj=0 then(if g1=y_.gs 1 then(Option.bind (α:=Nat×Nat×ZI) (aI (U:=ZI) (if decide (b8_0<(List.length d8_0:Int)) then(some (.brk c8_0)) else(xr (List.length (aY b8_1)+1) (aY b8_1,c8_0))) fun v4=>some (0,y_.gs 1,v4)) fun r_=>if r_.2.1=y_.gs 1 then(some (Nat.beq r_.1 0,y_,r_.1,r_.2.1,r_.2.2)) else none) else none) else none)
def lM:Nat→Int×Int×Zf×bz×Zb×Int×Int×Bool×Zc×Unit×Zg×Zg×Zh×Ze×Zd×ZI×Zl→Option (cK Zl Zl):=aL fun rec16 ⟨b,a,f,g,h,i,j,k,l,m,n,e,o,p,q,c,d⟩=>if decide (a<b) then(if 0≤a then(if a<(c.length:Int) then(if(nth dG c a).2.1=true then(if(List.length d+List.length [aQ aK bp (nth dG c a).1 (aY e)])*48≤aH then(rec16 (b,bq (a+1),f,g,h,i,j,k,l,m,n,e,o,p,q,c,d++[aQ aK bp (nth dG c a).1 (aY e)])) else none) else(if(List.length d+List.length [aQ aK bp (nth dG c a).1 (aY n)])*48≤aH then(rec16 (b,bq (a+1),f,g,h,i,j,k,l,m,n,e,o,p,q,c,d++[aQ aK bp (nth dG c a).1 (aY n)])) else none)) else none) else none) else(some (.brk d))
def Gq(a0:bz)(a1:Zf)(a2:Int)(a3:Int)(a4:Int)(a5:Zp):B8:=
 (fV a0 a1 a2 a3 a4).bind fun⟨a,e,f,g,h,i,j,k,m,b,c,p,n,o⟩=>if !a then(some ([]:Zl)) else(aI (U:=Zf×bz×Zb×Int×Int×Bool×Zc×Unit×Zg×Zg×Zh×Ze×Zd×ZI) ((Gm a5 b c e f g h i j k m n o p).bind fun⟨y,z,q,r,s,t,u,v,w,x,ab,ac,aa,ad⟩=>xP fun y10=>(Gn y10.l (fun d=>oh a5 y10 d.1 d.2.1 d.2.2.1 d.2.2.2.1 d.2.2.2.2.1 d.2.2.2.2.2.1) y10.l y10 0 (y10.gs 1) (ua (gq dG) ([]:ZI)) q r s t u v w x y z aa ab ac ad).bind fun⟨ae,af,_,ag,ah,ai,aj,ak,al,am,an,ao,ap,aq,ar,au,_,av⟩=>NC ae y10 (if af=0 then(some (.brk (ag,ah,ai,aj,ak,al,am,an,ao,ap,aq,ar,au,av))) else none)) fun⟨ax,ay,az,a6,a7,a8,a9,ba,bb,bc,bd,be,bf,aw⟩=>tK aw fun q12=>(BM q12).bind fun y13=>aI (U:=Zl) (lM (Int.toNat (y13.length:Int)+1) ((y13.length:Int),0,ax,ay,az,a6,a7,a8,a9,ba,bb,bc,bd,be,bf,y13,([]:Zl))) fun v14=>some v14)
def ahI:SS:=⟨83,123,[(12,.bn),tP 13 100,tP 15 31],[(31,.var (.slice 32 dG) (.own 111)),(43,.row 3 8 (.int .i64)),(99,fB 102 103 101),(100,.var uZ (.cons (.own 43) (.cons (.val (.map aK bp)) (.cons (.val (.map aK bp)) (.cons (pP 99) .nil))))),(101,.row 110 40 aR),(102,.map aK eE),(103,.map aR .bool),(109,.uy),(111,.fZ 90 32 dG)],[.mp 109]⟩
def ahJ:SS:=⟨83,123,[(12,.own 113)],[(109,.uy),(113,.row 50 48 bp)],[.mp 109]⟩
def YE:SS:=⟨83,123,[],[(1,.var (.slice 32 dG) (.own 107)),(107,.fZ 90 32 dG)],[]⟩
def ahK:SS:=⟨83,123,[tP 15 1,tP 42 58],[(1,.var (.slice 32 dG) (.own 106)),(58,.kq dG .bool),(106,.fZ 90 32 dG)],[]⟩
def ahL:SS:=⟨83,123,[(12,.own 112),tP 13 100,(53,.own 111),tI 54,tI 55],[(43,.row 3 8 (.int .i64)),(99,fB 102 103 101),(100,.var uZ (.cons (.own 43) (.cons (.val (.map aK bp)) (.cons (.val (.map aK bp)) (.cons (pP 99) .nil))))),(101,.row 110 40 aR),(102,.map aK eE),(103,.map aR .bool),(109,.uy),(111,.row 90 32 dG),(112,.row 50 48 bp)],[.mp 109]⟩
def ahM:SS:=⟨83,123,[(11,.cc (.slice 32 bC)),(12,.bn),tP 13 100,tP 15 31,(34,.func 63 .nil (.cons (pP 50) (.cons (pP 105) .nil)))],[(31,.var (.slice 32 dG) (.own 108)),(43,.row 3 8 (.int .i64)),(50,.var (.aT .ptr) (pP 100)),(99,fB 102 103 101),(100,.var uZ (.cons (.own 43) (.cons (.val (.map aK bp)) (.cons (.val (.map aK bp)) (.cons (pP 99) .nil))))),(101,.row 110 40 aR),(102,.map aK eE),(103,.map aR .bool),(105,.var (.slice 32 bC) (.val (.slice 32 bC))),(108,.fZ 90 32 dG)],[]⟩
def RR:SS:=⟨83,123,[(12,.val (.slice 48 bp))],[],[]⟩
def Va:aZ:=aF G [.tmp 12] 13 [.val fE,.val (.slice 8 (.int .i64)),vI,vI,vI,.val (.slice 32 bC)] [] 123 RR [] (.br (u6 Gq))
theorem Vb:hS Va:=
 cO ⟨[hE 1 [cB 0 [] [(41,43),(45,99),(47,100),(82,101),(88,102),(89,103)]],(5,⟨[.freeze 27 (.slice 1 (.int .u8)),.sr 31 [] 104 90 32 dG,.NF 104],[],[⟨[1],[(0,100),(1,43),(2,99),(3,102),(4,103),(5,101)],[(18,50),(19,105)],[],[]⟩],none,[],[],[]⟩),(12,⟨[],[],[],none,[],[.Wu 106],[.NF 66]⟩),(13,⟨[],[],[⟨[2],[(0,111)],[],[],[]⟩],none,[],[.Wu 111],[]⟩)],[(13,ahI),(21,ahJ)],[(1,YE)],[(10,⟨ahK,fun u5=>List.length u5.1+1⟩),(15,⟨ahL,fun u15=>Int.toNat u15.1+1⟩)],[],[(8,⟨0,109,110,[(1,.slice 32 dG)],[(31,1)],[],[(0,110),(1,31),(2,108),(3,43),(4,50),(5,99),(6,100),(7,101),(8,102),(9,103),(10,105)],[(80,111)],ahM,YE⟩)]⟩ (hq pw (hq U6 (hq U9 hz))) (Dr (L:=[Gp]) ⟨U7,trivial⟩) Tryz.call13 Tryz.func13
end Go.Proofs.YtpmlkhjpbjnagaaGreat
