/- part -/
import Derived.Test.YtpmlkhjpbjnagaaGreatUF
noncomputable section
namespace Go.Proofs.YtpmlkhjpbjnagaaGreat
open Go.Ax
def jg(q0_:Zk)(q1_:Zj)(a0:cN)(a1:bz)(a2:Zb)(a3:Int)(a4:Int)(a5:Bool)(a6:Zc)(a7:Unit)(a8:Zf)(a9:Zd)(a10:Zh):Option W7:=
 if(bT aK a0 a8)=true then(some (a1,a2,a3,a4,a5,a6,a7,a8,a9,aP aK eF a0 a8,a10)) else(aI (U:=bz×Zb×Int×Int×Bool×Zc×Unit×Zf×Zd×cN×Int×Int×Int×Int×Bool×N6×Zh) (if(aP (.int .i64) .bool a0.1 (aX a6))=true then((vN q0_ q1_ a0 a1 a2 a3 a4 a5 a6 a7 a8 a9 a10).bind fun⟨a,b,c,d,e,f,g,h,i,j,k⟩=>some (.brk (a,b,c,d,e,f,g,h,i,a0,0,0,0,0,false,j,k))) else((gG a0 a1 a2 a3 a4 a5 a6 a7 a8 a9 a10).bind fun⟨l,m,n,o,p,q,r,s,t,u,v⟩=>DC (.var oN (.cons (.val fI a1) (.cons (.val (.map aK (.slice 64 bJ)) a2) (.cons (.val (.int .i64) a3) (.cons (.val (.int .i64) a4) (.cons (.val .bool a5) (.cons (.val (.map (.int .i64) .bool) a6) (.cons (.mp 1) (.cons (.mp 2) (.cons (.own 3) (.val .unit a7))))))))))) (.var oN (.cons (.val fI l) (.cons (.val (.map aK (.slice 64 bJ)) m) (.cons (.val (.int .i64) n) (.cons (.val (.int .i64) o) (.cons (.val .bool p) (.cons (.val (.map (.int .i64) .bool) q) (.cons (.mp 1) (.cons (.mp 2) (.cons (.own 3) (.val .unit r))))))))))) (DC (.map aK eF a8) (.map aK eF s) (DC (.map aR .bool a9) (.map aR .bool t) (DC (.row 110 40 aR a10) (.row 110 40 aR u) ((f87 v a0.1 a0.2.1 a0.2.2.1 a3 a4).bind fun⟨y,x,w⟩=>(nF w).bind fun y5=>(im a10 y5 a1 a2 a3 a4 a5 a6 a7 a8 a9).bind fun⟨_,z,aa,ab,ac,ad,ae,af,ag,ah,ai⟩=>some (.brk (z,aa,ab,ac,ad,ae,af,ag,ah,a0,0,0,0,0,false,(x,0,([]:Zl),y,()),ai)))))))) fun⟨ak,al,am,an,ao,ap,aq,aj,av,ar,_,_,_,_,_,au,aw⟩=>if aj.length+1≤aH then(some (ak,al,am,an,ao,ap,aq,aZ aK ar au aj,av,au,aw)) else none)
def ag5:SS:=⟨75,115,[tP 0 0,tP 3 19,tP 4 20,tP 7 23],[(0,fB 1 2 92),(1,.map aK eF),(2,.map aR .bool),(19,bV aK),(20,.var eF (.cons (.cons vI (.cons vI (.cons vI (.cons .bn .nil)))) (.cons vI (.cons .bn (.cons vB .nil))))),(23,bV eF),(92,.row 110 40 aR)],[]⟩
def ag6:SS:=⟨75,115,[tP 4 20],Xd,[]⟩
def U9(q0_:Zk)(q1_:Zj):bh:=aF G [.cell 4 79] 62 [pP 0,.val aK] Jc 115 ag6 [0,1,2,93] (.br (Nr (jg q0_ q1_)))
theorem Va(q0_:Zk)(q1_:Zj)(h0_:hS (vL q0_))(h1_:hS (qh q1_)):hS (U9 q0_ q1_):=
 cO ⟨[hE 6 [cB 0 [(0,0),(1,1),(2,2),(3,3)] [(65,47)]],hE 7 [⟨[1],[(0,0),(1,1),(2,2),(3,3)],[],[],[0,1,2,3]⟩,cA 2],hE 9 [⟨[3],[],[(18,80),(19,91)],[(0,0)],[]⟩,cB 4 [(0,3),(1,91),(2,80),(3,0),(4,1),(5,2)] [(32,81)]]],[(10,ag5)],[],[],[],[]⟩ (hq (TM q0_ q1_ h0_ h1_) (hq TO (hq x87 (hq U2 (hq Sv hz))))) aJ Tryz.call62 Tryz.func62
def f254(a0:dz)(a1:pZ):Option (Bool×dH):=
 (f167 a0 a1.2.2.1 a1.2.2.2.1).bind fun⟨a,b⟩=>Option.bind (α:=Bool) (if !a then(some true) else((f168 a0 b).bind fun y2=>if !y2 then(some true) else(if decide ((0:Int)≤b.2.2.2.2.1) then(if 0≤b.2.2.2.2.1 then(if b.2.2.2.2.1<(a0.1.2.1.length:Int) then((f132 a0 (nth aU a0.1.2.1 b.2.2.2.2.1)).bind fun y3=>some (!y3)) else none) else none) else(some false)))) fun v4=>if v4=true then(some (false,b)) else(some (true,b))
def ag7:SS:=⟨42,82,[tP 4 20,(5,vB)],[(20,bV fH)],[]⟩
def ag8:bh:=aF G [.cell 4 119,.tmp 5] 254 [.val iO,.val fe] [] 82 ag7 [] (.br (u2 f254))
theorem ag9:hS ag8:=
 cO (hR [hA 1 0,hD 2 39 [cA 1,cA 2]]) (hq Np (hq U5 (hq Yu hz))) aJ Tryz.call254 Tryz.func254
def f219(a0:cu)(a1:pZ)(a2:Int):Option yq:=
 (f254 (a0,()) a1).bind fun⟨a,b⟩=>aI (U:=Int×cu×dH) (Option.bind (α:=Bool) (if !a then(some true) else(if decide (a2<(0:Int)) then(some true) else(some (decide ((1048576:Int)<a2))))) fun v3=>if v3=true then(bU (some (0,120))) else(some (.brk (a2,a0,b)))) fun⟨e,d,c⟩=>if decide ((0:Int)≤c.2.2.2.2.1) then(if 0≤c.2.2.2.2.1 then(if c.2.2.2.2.1<(d.2.1.length:Int) then(some (bq (e*(nth aU d.2.1 c.2.2.2.2.1).2.2.2.2.1),0)) else none) else none) else(some (e,0))
def aha:SS:=⟨42,82,[tI 2,tP 3 19,tP 9 25],[(19,bV iN),(25,bV fH)],[]⟩
def ahb:SS:=⟨42,82,[tI 6,tI 7],[],[]⟩
def ahc:bh:=aF G [.tmp 6,.tmp 7] 219 [.val iN,.val fe,vI] [] 82 ahb [] (.br (u3 f219))
theorem ahd:hS ahc:=
 cO ⟨[hA 2 0,hD 3 28 []],[(5,aha)],[],[],[],[]⟩ (hq ag9 hz) aJ Tryz.call219 Tryz.func219
def rO(a0:gU)(a1:dt)(a2:bz)(a3:Zb)(a4:Int)(a5:Int)(a6:Bool)(a7:Zc)(a8:Unit)(a9:Zl)(a10:Zf)(a11:Zd)(a12:Zh):Option (Int×dt×YV):=
 if 0≤a0.2.2.1 then(if a0.2.2.1<(a1.2.2.1.length:Int) then((f166 a0 a9).bind fun y1=>(f219 a2.1.1 ([],[],(nth aQ a1.2.2.1 a0.2.2.1).2.2.1,a0.2.2.2.1,()) y1).bind fun⟨a,_⟩=>some (a,a1,a2,a3,a4,a5,a6,a7,a8,a9,a10,a11,a12)) else none) else none
def YO:List (Nat×de):=[(0,bV bG),(1,.var (.aT .ptr) (pP 3)),(2,.var (.slice 48 bp) (.own 4)),(3,fB 5 6 7),(4,.row 50 48 bp),(5,.map aK eF),(6,.map aR .bool),(7,.row 110 40 aR)]
def ahe:SS:=⟨34,74,[tI 5],YO,[]⟩
def RZ:bh:=aF G [.tmp 5] 218 [.val aU,pP 0,pP 1,pP 2] YO 74 ahe [0,1,2,3,4,5,6,7] (.br (I5 rO))
theorem R0:hS RZ:=
 cO (hR [hE 2 [cA 0,cA 1]]) (hq TK (hq ahd hz)) aJ Tryz.call218 Tryz.func218
def I1(a0:Int)(a1:Int):Zm:=
 some (!decide (a0=a1))
def ahf:SS:=⟨6,46,[(2,vB)],[],[]⟩
def R3:bh:=aF G [.tmp 2] 258 [.cd (.int .i64),.cd (.int .i64)] [] 46 ahf [] (.br (u2 I1))
theorem R4:hS R3:=
 cO (hR []) hz aJ Tryz.call258 Tryz.func258
def I2(a0:Int)(a1:Int):Zm:=
 some (decide (a0≤a1))
def ahg:SS:=⟨6,46,[(2,vB)],[],[]⟩
def R5:bh:=aF G [.tmp 2] 257 [.cd (.int .i64),.cd (.int .i64)] [] 46 ahg [] (.br (u2 I2))
theorem R6:hS R5:=
 cO (hR []) hz aJ Tryz.call257 Tryz.func257
def I3(a0:Int)(a1:Int):Zm:=
 some (decide (a0<a1))
def ahh:SS:=⟨6,46,[(2,vB)],[],[]⟩
def R7:bh:=aF G [.tmp 2] 256 [.cd (.int .i64),.cd (.int .i64)] [] 46 ahh [] (.br (u2 I3))
theorem R8:hS R7:=
 cO (hR []) hz aJ Tryz.call256 Tryz.func256
def I4(a0:Int)(a1:Int):Zm:=
 some (decide (a0=a1))
def ahi:SS:=⟨6,46,[(2,vB)],[],[]⟩
def R9:bh:=aF G [.tmp 2] 255 [.cd (.int .i64),.cd (.int .i64)] [] 46 ahi [] (.br (u2 I4))
theorem Sa:hS R9:=
 cO (hR []) hz aJ Tryz.call255 Tryz.func255
def f220(a0:Int)(a1:Int)(a2:Int):Zm:=
 if bl (.int .i64) a0 (1:Int)=true then((I4 a1 a2).bind fun y4=>some y4) else(if bl (.int .i64) a0 (2:Int)=true then((I3 a1 a2).bind fun y3=>some y3) else(if bl (.int .i64) a0 (3:Int)=true then((I2 a1 a2).bind fun y2=>some y2) else(if bl (.int .i64) a0 (4:Int)=true then((I1 a1 a2).bind fun y1=>some y1) else(some false))))
def ahj:SS:=⟨26,66,[(6,vB)],[],[]⟩
def ahk:bh:=aF G [.tmp 6] 220 [vI,vI,vI] [] 66 ahj [] (.br (u3 f220))
theorem ahl:hS ahk:=
 cO (hR [hE 3 [⟨[0,1,2,3],[],[],[],[]⟩]]) (hq R4 (hq R6 (hq R8 (hq Sa hz)))) aJ Tryz.call220 Tryz.func220
def gL:Nat→ZB×Int×Int×bz×Zb×Int×Int×Bool×Zc×Unit×Zl×Zf×Zd×Zh×dt→Option (cL YV (Bool×YV)):=aL fun amC ⟨aw,av,au,az,a0,a1,a2,a3,a4,a5,ax,a6,a7,a8,ay⟩=>if decide (au<av) then(if 0≤au then(if au<(aw.length:Int) then((f166 (nth aV aw au).2.1 ax).bind fun y4=>(f166 (nth aV aw au).2.2.1 ax).bind fun y5=>aI (U:=Int×Int×ZB×Int×Int×bz×Zb×Int×Int×Bool×Zc×Unit×Zl×Zf×Zd×Zh×dt×rP) (Option.bind (α:=Bool) (if !decide ((nth aV aw au).2.1.2.2.1=(-1:Int)) then(some (!decide ((nth aV aw au).2.2.1.2.2.1=(-1:Int)))) else(some false)) fun v7=>if v7=true then((rO (nth aV aw au).2.1 ay az a0 a1 a2 a3 a4 a5 ax a6 a7 a8).bind fun⟨m,a,b,c,d,e,f,g,h,i,j,k,l⟩=>(rO (nth aV aw au).2.2.1 a b c d e f g h i j k l).bind fun⟨n,z,o,p,q,r,s,t,u,v,w,x,y⟩=>some (.brk (m,n,aw,av,au,o,p,q,r,s,t,u,v,w,x,y,z,nth aV aw au))) else(some (.brk (y4,y5,aw,av,au,az,a0,a1,a2,a3,a4,a5,ax,a6,a7,a8,ay,nth aV aw au)))) fun⟨ab,ac,ao,ap,aq,ad,ae,af,ag,ah,ai,aj,ak,al,am,an,ar,aa⟩=>(f220 aa.1 ab ac).bind fun y10=>if !y10 then(bU (some (false,ad,ae,af,ag,ah,ai,aj,ak,al,am,an))) else(amC (ao,ap,bq (aq+1),ad,ae,af,ag,ah,ai,aj,ak,al,am,an,ar))) else none) else none) else(some (.brk (az,a0,a1,a2,a3,a4,a5,ax,a6,a7,a8)))
def oI(a0:dt)(a1:bz)(a2:Zb)(a3:Int)(a4:Int)(a5:Bool)(a6:Zc)(a7:Unit)(a8:Zl)(a9:Zf)(a10:Zd)(a11:Zh):Option (Bool×YV):=
 aI (U:=YV) (gL (Int.toNat (a0.2.2.2.1.length:Int)+1) (a0.2.2.2.1,(a0.2.2.2.1.length:Int),0,a1,a2,a3,a4,a5,a6,a7,a8,a9,a10,a11,a0)) fun⟨a,b,c,d,e,f,g,h,i,j,k⟩=>some (true,a,b,c,d,e,f,g,h,i,j,k)
def ahm:SS:=⟨53,93,[tP 5 21,(7,.func 218 .nil (.cons (pP 20) (.cons (pP 19) (.cons (pP 21) .nil)))),tP 9 25,tI 10,tI 11,(14,.val (.slice 120 aV)),tI 15,tI 16],[(0,fB 2 3 4),(1,.row 50 48 bp),(2,.map aK eF),(3,.map aR .bool),(4,.row 110 40 aR),(19,.var (.aT .ptr) (pP 0)),(20,bV bG),(21,.var (.slice 48 bp) (.own 1)),(25,bV aV)],[]⟩
def Vb:List (Nat×de):=[(0,fB 2 3 4),(1,.row 50 48 bp),(2,.map aK eF),(3,.map aR .bool),(4,.row 110 40 aR)]
def ahn:SS:=⟨53,93,[],Vb,[]⟩
def aho:SS:=⟨53,93,[tP 5 21,(7,.func 218 .nil (.cons (pP 20) (.cons (pP 19) (.cons (pP 21) .nil)))),(14,.val (.slice 120 aV)),tI 15,tI 16],[(0,fB 2 3 4),(1,.row 50 48 bp),(2,.map aK eF),(3,.map aR .bool),(4,.row 110 40 aR),(19,.var (.aT .ptr) (pP 0)),(20,bV bG),(21,.var (.slice 48 bp) (.own 1))],[]⟩
def ahp:SS:=⟨53,93,[(6,vB)],Vb,[]⟩
def Sb:bh:=aF G [.tmp 6] 165 [pP 0,.val bG,.own 1] Vb 93 ahp [0,1,2,3,4] (.br (Ns oI))
theorem Sd:hS Sb:=
 cO ⟨[hE 5 [cA 0,cA 0],hD 6 37 [],hE 7 [cB 1 [(0,20),(1,19),(2,21),(3,0),(4,1),(5,2),(6,3),(7,4)] [],cB 1 [(0,20),(1,19),(2,21),(3,0),(4,1),(5,2),(6,3),(7,4)] []],hA 8 2],[(8,ahm),(11,ahn)],[],[(3,⟨aho,fun u2=>Int.toNat u2.2.1+1⟩)],[],[]⟩ (hq TK (hq R0 (hq ahl hz))) aJ Tryz.call165 Tryz.func165
def nH(q0_:Zk)(q1_:Zj):Nat→Int×Int×Int×dt×Int×bz×Zb×Int×Int×Bool×Zc×Unit×Zf×Zd×B1×Zl×Zh→Option (cL (dt×Int×Zt) (Bool×dt×Int×Zt)):=aL fun rec6 ⟨ac,aa,z,ao,ap,ad,ae,af,ag,ah,ai,aj,ak,al,ab,an,am⟩=>if decide (z<aa) then((q0_ ((ab.2.2.1,ac,z,()),ad,ae,af,ag,ah,ai,aj,ak,al,am,())).bind fun⟨b,c,d,e,f,g,h,i,j,a,k⟩=>if a.2.2.2.1=true then(if(List.length an+List.length [a.1])*48≤aH then((q1_ (ao,ap,an++[a.1],b,c,d,e,f,g,h,i,j,k,())).bind fun⟨l,m,n,o,p,q,r,s,t,u,v,w,x,y⟩=>if l=true then(bU (some (true,m,n,o,p,q,r,s,t,u,v,w,x,y))) else(if 0≤(bq ((x.length:Int) -(1:Int))) then(if(bq ((x.length:Int) -(1:Int)))≤(x.length:Int) then(rec6 (ac,aa,bq (z+1),m,n,o,p,q,r,s,t,u,v,w,ab,List.take ((Int.toNat (bq ((x.length:Int) -(1:Int)))) -0) x,y)) else none) else none)) else none) else(rec6 (ac,aa,bq (z+1),ao,ap,b,c,d,e,f,g,h,i,j,ab,an,k))) else(some (.brk (ao,ap,ad,ae,af,ag,ah,ai,aj,ak,al,an,am)))
def jy(q0_:Zk)(q1_:Zj)(a0:dt)(a1:Int)(a2:Zl)(a3:bz)(a4:Zb)(a5:Int)(a6:Int)(a7:Bool)(a8:Zc)(a9:Unit)(a10:Zf)(a11:Zd)(a12:Zh):Option (Bool×dt×Int×Zt):=
 if decide ((a2.length:Int)=(a0.2.2.1.length:Int)) then((oI a0 a3 a4 a5 a6 a7 a8 a9 a2 a10 a11 a12).bind fun⟨a,b,c,d,e,f,g,h,k,i,j,l⟩=>some (a,a0,a1,b,c,d,e,f,g,h,i,j,k,l)) else(if 0≤(a2.length:Int) then(if(a2.length:Int)<(a0.2.2.1.length:Int) then(aI (U:=Int×Int×dt×Int×Zl×bz×Zb×Int×Int×Bool×Zc×Unit×Zf×Zd×Zh×B1) (if !decide ((nth aQ a0.2.2.1 (a2.length:Int)).2.2.2.1.2.2.1=(-1:Int)) then(if 0≤(nth aQ a0.2.2.1 (a2.length:Int)).2.2.2.1.2.2.1 then(if(nth aQ a0.2.2.1 (a2.length:Int)).2.2.2.1.2.2.1<(a2.length:Int) then(if 0≤(nth aQ a0.2.2.1 (a2.length:Int)).2.2.2.1.2.2.2.1 then(if(nth aQ a0.2.2.1 (a2.length:Int)).2.2.2.1.2.2.2.1<(List.length (nth bp a2 (nth aQ a0.2.2.1 (a2.length:Int)).2.2.2.1.2.2.1).2.2.2.1:Int) then(some (.brk (nth (.int .i64) (nth bp a2 (nth aQ a0.2.2.1 (a2.length:Int)).2.2.2.1.2.2.1).2.2.2.1 (nth aQ a0.2.2.1 (a2.length:Int)).2.2.2.1.2.2.2.1,4,a0,a1,a2,a3,a4,a5,a6,a7,a8,a9,a10,a11,a12,nth aQ a0.2.2.1 (a2.length:Int)))) else none) else none) else none) else none) else(some (.brk (a1,4,a0,a1,a2,a3,a4,a5,a6,a7,a8,a9,a10,a11,a12,nth aQ a0.2.2.1 (a2.length:Int))))) fun⟨o,ab,p,q,r,s,t,u,v,w,n,x,y,z,aa,m⟩=>aI (U:=Int×Int×dt×Int×Zl×bz×Zb×Int×Int×Bool×Zc×Unit×Zf×Zd×Zh×B1) (if(aP (.int .i64) .bool m.2.2.1 (aX n))=true then(some (.brk (o,1,p,q,r,s,t,u,v,w,n,x,y,z,aa,m))) else(some (.brk (o,ab,p,q,r,s,t,u,v,w,n,x,y,z,aa,m)))) fun⟨ad,ac,ae,af,aq,ag,ah,ai,aj,ak,al,am,an,ao,ar,ap⟩=>aI (U:=dt×Int×Zt) (nH q0_ q1_ (Int.toNat ac+1) (ad,ac,0,ae,af,ag,ah,ai,aj,ak,al,am,an,ao,ap,aq,ar)) fun⟨au,av,aw,ax,ay,az,ba,bb,bc,bd,be,bf,bg⟩=>some (false,au,av,aw,ax,ay,az,ba,bb,bc,bd,be,bf,bg)) else none) else none)
def YP:SS:=⟨77,117,[tP 0 0,tP 2 2,tP 4 4,tP 6 22,tI 7,tI 8],[(0,.var (.slice 48 bp) (.own 5)),(1,bV bG),(2,.var (.aT .ptr) (pP 6)),(3,bI),(4,.var (.aT .func) (.func 164 .nil (.cons (pP 0) (.cons (pP 1) (.cons (pP 2) (.cons (pP 3) (.cons (pP 4) .nil))))))),(5,.row 50 48 bp),(6,fB 7 8 9),(7,.map aK eF),(8,.map aR .bool),(9,.row 110 40 aR),(22,bV aQ)],[]⟩
def ahq:SS:=⟨77,117,[],[(0,.var (.slice 48 bp) (.own 97)),(1,bV bG),(2,.var (.aT .ptr) (pP 6)),(3,bI),(4,.var (.aT .func) (.func 164 .nil (.cons (pP 0) (.cons (pP 1) (.cons (pP 2) (.cons (pP 3) (.cons (pP 4) .nil))))))),(6,fB 7 8 98),(7,.map aK eF),(8,.map aR .bool),(97,.row 50 48 bp),(98,.row 110 40 aR)],[]⟩
def ahr:SS:=⟨77,117,[tP 0 0,tP 2 2,tP 4 4,tP 6 22,tI 7,tI 51,tI 52],[(0,.var (.slice 48 bp) (.own 95)),(1,bV bG),(2,.var (.aT .ptr) (pP 6)),(3,bI),(4,.var (.aT .func) (.func 164 .nil (.cons (pP 0) (.cons (pP 1) (.cons (pP 2) (.cons (pP 3) (.cons (pP 4) .nil))))))),(6,fB 7 8 96),(7,.map aK eF),(8,.map aR .bool),(22,bV aQ),(95,.row 50 48 bp),(96,.row 110 40 aR)],[]⟩
def ahs:SS:=⟨77,117,[(5,vB)],Xe,[]⟩
def Se(q0_:Zk)(q1_:Zj):bh:=aF G [.tmp 5] 164 [pP 0,pP 1,pP 2,pP 3,pP 4] Xf 117 ahs [0,1,2,3,4,6,7,8,99,100] (.br (I5 (jy q0_ q1_)))
theorem Sf(q0_:Zk)(q1_:Zj)(h0_:hS (vL q0_))(h1_:hS (qh q1_)):hS (Se q0_ q1_):=
 cO ⟨[hE 2 [cB 0 [(0,6),(1,5),(2,7),(3,8),(4,9)] []],hE 12 [cB 1 [(0,6),(1,7),(2,8),(3,96)] [(93,77)]],hE 15 [cB 2 [(0,0),(1,1),(2,2),(3,3),(4,4),(5,84),(6,6),(7,7),(8,8),(9,77)] [(99,86),(100,93)]],(17,⟨[],[],[],none,[],[],[.oY 0 [] 94]⟩)],[(7,YP),(9,YP),(19,ahq)],[],[(10,⟨ahr,fun u5=>Int.toNat u5.2.1+1⟩)],[],[]⟩ (hq Sd (hq h0_ (hq h1_ hz))) aJ Tryz.call164 Tryz.func164
def fc:Nat→Zk×Zj:=@Nat.rec (fun _=>(cN×bz×(Zb)×Int×Int×Bool×(Zc)×Unit×(Zf)×(Zd)×(Zh)×Unit→Option W7)×(dt×Int×(Zl)×bz×(Zb)×Int×Int×Bool×(Zc)×Unit×(Zf)×(Zd)×(Zh)×Unit→Option (Bool×dt×Int×Zt))) (fun _=>none,fun _=>none) (fun _ ih=>(fun d=>jg ih.1 ih.2 d.1 d.2.1 d.2.2.1 d.2.2.2.1 d.2.2.2.2.1 d.2.2.2.2.2.1 d.2.2.2.2.2.2.1 d.2.2.2.2.2.2.2.1 d.2.2.2.2.2.2.2.2.1 d.2.2.2.2.2.2.2.2.2.1 d.2.2.2.2.2.2.2.2.2.2.1,fun d=>jy ih.1 ih.2 d.1 d.2.1 d.2.2.1 d.2.2.2.1 d.2.2.2.2.1 d.2.2.2.2.2.1 d.2.2.2.2.2.2.1 d.2.2.2.2.2.2.2.1 d.2.2.2.2.2.2.2.2.1 d.2.2.2.2.2.2.2.2.2.1 d.2.2.2.2.2.2.2.2.2.2.1 d.2.2.2.2.2.2.2.2.2.2.2.1 d.2.2.2.2.2.2.2.2.2.2.2.2.1))
theorem J2(n:Nat):hS (vL ((fc n).1))∧hS (qh ((fc n).2)):=by
 induction n with
 |zero=>exact⟨bh.Yd,bh.Yd⟩
 |succ n ih=>exact⟨Va _ _ ih.1 ih.2,Sf _ _ ih.1 ih.2⟩
def lZ(a0:cN)(a1:bz)(a2:Zb)(a3:Int)(a4:Int)(a5:Bool)(a6:Zc)(a7:Unit)(a8:Zf)(a9:Zd)(a10:Zh):Option W7:=(fc iB).1 (a0,a1,a2,a3,a4,a5,a6,a7,a8,a9,a10,())
def Sg:bh:=aF G [.cell 4 79] 62 [pP 0,.val aK] Jc 115 EA [0,1,2,93] (.br (Nr lZ))
theorem Si:hS Sg:=(J2 iB).1
end Go.Proofs.YtpmlkhjpbjnagaaGreat
