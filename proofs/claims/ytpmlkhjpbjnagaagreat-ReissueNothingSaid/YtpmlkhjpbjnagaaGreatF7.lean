/- part -/
import Derived.Test.YtpmlkhjpbjnagaaGreatUF
noncomputable section
namespace Go.Proofs.YtpmlkhjpbjnagaaGreat
open Go.Ax
def i7(q0_:Zl)(q1_:Zk)(a0:cF)(a1:bL)(a2:Zc)(a3:Int)(a4:Int)(a5:Bool)(a6:Zd)(a7:Unit)(a8:Zf)(a9:Ze)(a10:Zi):Option Wy:=
 if(cC aF a0 a8)=true then(some (a1,a2,a3,a4,a5,a6,a7,a8,a9,aQ aF dZ a0 a8,a10)) else(aH (U:=bL×Zc×Int×Int×Bool×Zd×Unit×Zf×Ze×cF×Int×Int×Int×Int×Bool×MN×Zi) (if(aQ qr .bool a0.1 (bE a6))=true then(Option.bind (ur q0_ q1_ a0 a1 a2 a3 a4 a5 a6 a7 a8 a9 a10) fun⟨a,b,c,d,e,f,g,h,i,j,k⟩=>some (.bA (a,b,c,d,e,f,g,h,i,a0,0,0,0,0,false,j,k))) else(Option.bind (gF a0 a1 a2 a3 a4 a5 a6 a7 a8 a9 a10) fun⟨l,m,n,o,p,q,r,s,t,u,v⟩=>BZ (.var oe (.cons (.val fX a1) (.cons (.val (.map aF (.slice 64 aW)) a2) (.cons (.val qr a3) (.cons (.val qr a4) (.cons (.val .bool a5) (.cons (.val (.map qr .bool) a6) (.cons (.mp 1) (.cons (.mp 2) (.cons (.own 3) (.val .unit a7))))))))))) (.var oe (.cons (.val fX l) (.cons (.val (.map aF (.slice 64 aW)) m) (.cons (.val qr n) (.cons (.val qr o) (.cons (.val .bool p) (.cons (.val (.map qr .bool) q) (.cons (.mp 1) (.cons (.mp 2) (.cons (.own 3) (.val .unit r))))))))))) (BZ (.map aF dZ a8) (.map aF dZ s) (BZ (.map aM .bool a9) (.map aM .bool t) (BZ (.row 110 40 aM a10) (.row 110 40 aM u) (Option.bind (Em v a0.1 a0.2.1 a0.2.2.1 a3 a4) fun⟨y,x,w⟩=>Option.bind (ng w) fun y5=>Option.bind (ij a10 y5 a1 a2 a3 a4 a5 a6 a7 a8 a9) fun⟨_,z,aa,ab,ac,ad,ae,af,ag,ah,ai⟩=>some (.bA (z,aa,ab,ac,ad,ae,af,ag,ah,a0,0,0,0,0,false,(x,0,([]:Zm),y,()),ai)))))))) fun⟨ak,al,am,an,ao,ap,aq,aj,av,ar,_,_,_,_,_,au,aw⟩=>if aj.length+1≤aG then(some (ak,al,am,an,ao,ap,aq,bC aF ar au aj,av,au,aw)) else none)
def aho:SS:=⟨75,115,[tP 0 0,tP 3 19,tP 4 20,tP 7 23],[(0,fB 1 2 92),(1,.map aF dZ),(2,.map aM .bool),(19,bV aF),(20,.var dZ (.cons (.cons vI (.cons vI (.cons vI (.cons .bF .nil)))) (.cons vI (.cons .bF (.cons vB .nil))))),(23,bV dZ),(92,.row 110 40 aM)],[]⟩
def ahp:SS:=⟨75,115,[tP 4 20],WG,[]⟩
def Uv(q0_:Zl)(q1_:Zk):aX:=aE G [.cell 4 79] 62 [pP 0,.val aF] Hd 115 ahp [0,1,2,93] (.bH (LO (i7 q0_ q1_)))
theorem Uw(q0_:Zl)(q1_:Zk)(h0_:hS (uq q0_))(h1_:hS (pz q1_)):hS (Uv q0_ q1_):=
 cO ⟨[hE 6 [cB 0 [(0,0),(1,1),(2,2),(3,3)] [(65,47)]],hE 7 [⟨[1],[(0,0),(1,1),(2,2),(3,3)],[],[],[0,1,2,3]⟩,cA 2],hE 9 [⟨[3],[],[(18,80),(19,91)],[(0,0)],[]⟩,cB 4 [(0,3),(1,91),(2,80),(3,0),(4,1),(5,2)] [(32,81)]]],[(10,aho)],[],[],[],[]⟩ (hq (SQ q0_ q1_ h0_ h1_) (hq SU (hq x87 (hq Ua (hq Rp hz))))) aJ Tryz.call62 Tryz.func62
def QO(a0:dJ)(a1:pj):Option (Bool×dT):=
 Option.bind (Ad a0 a1.2.2.1 a1.2.2.2.1) fun⟨a,b⟩=>Option.bind (α:=Bool) (if(!a)=true then(some true) else(Option.bind (ni a0 b) fun y2=>if(!y2)=true then(some true) else(if(decide ((0:Int)≤b.2.2.2.2.1))=true then(if 0≤b.2.2.2.2.1 then(if b.2.2.2.2.1<(List.length a0.1.2.1:Int) then(Option.bind (CD a0 (nth aT a0.1.2.1 b.2.2.2.2.1)) fun y3=>some (!y3)) else none) else none) else(some false)))) fun v4=>if v4=true then(some (false,b)) else(some (true,b))
def ahq:SS:=⟨42,82,[tP 4 20,(5,vB)],[(20,bV fO)],[]⟩
def ahr:aX:=aE G [.cell 4 119,.tmp 5] 254 [.val iJ,.val fg] [] 82 ahq [] (.bH (u2 QO))
theorem ahs:hS ahr:=
 cO (hR [hA 1 0,hD 2 39 [cA 1,cA 2]]) (hq LB (hq Uh (hq X0 hz))) aJ Tryz.call254 Tryz.func254
def LN(a0:cM)(a1:pj)(a2:Int):Option wJ:=
 Option.bind (QO (a0,()) a1) fun⟨a,b⟩=>aH (U:=Int×cM×dT) (Option.bind (α:=Bool) (if(!a)=true then(some true) else(if(decide (a2<(0:Int)))=true then(some true) else(some (decide ((1048576:Int)<a2))))) fun v3=>if v3=true then(cw (some (0,120))) else(some (.bA (a2,a0,b)))) fun⟨e,d,c⟩=>if(decide ((0:Int)≤c.2.2.2.2.1))=true then(if 0≤c.2.2.2.2.1 then(if c.2.2.2.2.1<(List.length d.2.1:Int) then(some (aZ (e*(nth aT d.2.1 c.2.2.2.2.1).2.2.2.2.1),0)) else none) else none) else(some (e,0))
def aht:SS:=⟨42,82,[tI 2,tP 3 19,tP 9 25],[(19,bV iI),(25,bV fO)],[]⟩
def ahu:SS:=⟨42,82,[tI 6,tI 7],[],[]⟩
def ahv:aX:=aE G [.tmp 6,.tmp 7] 219 [.val iI,.val fg,vI] [] 82 ahu [] (.bH (u3 LN))
theorem ahw:hS ahv:=
 cO ⟨[hA 2 0,hD 3 28 []],[(5,aht)],[],[],[],[]⟩ (hq ahs hz) aJ Tryz.call219 Tryz.func219
def qM(a0:gQ)(a1:dD)(a2:bL)(a3:Zc)(a4:Int)(a5:Int)(a6:Bool)(a7:Zd)(a8:Unit)(a9:Zm)(a10:Zf)(a11:Ze)(a12:Zi):Option (Int×dD×YT):=
 if 0≤a0.2.2.1 then(if a0.2.2.1<(List.length a1.2.2.1:Int) then(Option.bind (C6 a0 a9) fun y1=>Option.bind (LN a2.1.1 ([],[],(nth aO a1.2.2.1 a0.2.2.1).2.2.1,a0.2.2.2.1,()) y1) fun⟨a,_⟩=>some (a,a1,a2,a3,a4,a5,a6,a7,a8,a9,a10,a11,a12)) else none) else none
def YJ:List (Nat×dj):=[(0,bV bZ),(1,.var (.aS .ptr) (pP 3)),(2,.var (.slice 48 bN) (.own 4)),(3,fB 5 6 7),(4,.row 50 48 bN),(5,.map aF dZ),(6,.map aM .bool),(7,.row 110 40 aM)]
def ahx:SS:=⟨34,74,[tI 5],YJ,[]⟩
def QP:aX:=aE G [.tmp 5] 218 [.val aT,pP 0,pP 1,pP 2] YJ 74 ahx [0,1,2,3,4,5,6,7] (.bH (IZ qM))
theorem QQ:hS QP:=
 cO (hR [hE 2 [cA 0,cA 1]]) (hq SO (hq ahw hz)) aJ Tryz.call218 Tryz.func218
def GY(a0:Int)(a1:Int):Zo:=
 some (!decide (a0=a1))
def ahy:SS:=⟨6,46,[(2,vB)],[],[]⟩
def QR:aX:=aE G [.tmp 2] 258 [.cb qr,.cb qr] [] 46 ahy [] (.bH (u2 GY))
theorem QS:hS QR:=
 cO (hR []) hz aJ Tryz.call258 Tryz.func258
def GZ(a0:Int)(a1:Int):Zo:=
 some (decide (a0≤a1))
def ahz:SS:=⟨6,46,[(2,vB)],[],[]⟩
def QT:aX:=aE G [.tmp 2] 257 [.cb qr,.cb qr] [] 46 ahz [] (.bH (u2 GZ))
theorem QU:hS QT:=
 cO (hR []) hz aJ Tryz.call257 Tryz.func257
def G0(a0:Int)(a1:Int):Zo:=
 some (decide (a0<a1))
def ahA:SS:=⟨6,46,[(2,vB)],[],[]⟩
def QV:aX:=aE G [.tmp 2] 256 [.cb qr,.cb qr] [] 46 ahA [] (.bH (u2 G0))
theorem QW:hS QV:=
 cO (hR []) hz aJ Tryz.call256 Tryz.func256
def G1(a0:Int)(a1:Int):Zo:=
 some (decide (a0=a1))
def ahB:SS:=⟨6,46,[(2,vB)],[],[]⟩
def QX:aX:=aE G [.tmp 2] 255 [.cb qr,.cb qr] [] 46 ahB [] (.bH (u2 G1))
theorem QY:hS QX:=
 cO (hR []) hz aJ Tryz.call255 Tryz.func255
def Ie(a0:Int)(a1:Int)(a2:Int):Zo:=
 if bD qr a0 (1:Int)=true then(Option.bind (G1 a1 a2) fun y4=>some y4) else(if bD qr a0 (2:Int)=true then(Option.bind (G0 a1 a2) fun y3=>some y3) else(if bD qr a0 (3:Int)=true then(Option.bind (GZ a1 a2) fun y2=>some y2) else(if bD qr a0 (4:Int)=true then(Option.bind (GY a1 a2) fun y1=>some y1) else(some false))))
def ahC:SS:=⟨26,66,[(6,vB)],[],[]⟩
def ahD:aX:=aE G [.tmp 6] 220 [vI,vI,vI] [] 66 ahC [] (.bH (u3 Ie))
theorem ahE:hS ahD:=
 cO (hR [hE 3 [⟨[0,1,2,3],[],[],[],[]⟩]]) (hq QS (hq QU (hq QW (hq QY hz)))) aJ Tryz.call220 Tryz.func220
def gI:Nat→ZE×Int×Int×bL×Zc×Int×Int×Bool×Zd×Unit×Zm×Zf×Ze×Zi×dD→Option (cH YT (Bool×YT)):=aK fun am3 ⟨aw,av,au,az,a0,a1,a2,a3,a4,a5,ax,a6,a7,a8,ay⟩=>if(decide (au<av))=true then(if 0≤au then(if au<(aw.length:Int) then(Option.bind (C6 (nth aU aw au).2.1 ax) fun y4=>Option.bind (C6 (nth aU aw au).2.2.1 ax) fun y5=>aH (U:=Int×Int×ZE×Int×Int×bL×Zc×Int×Int×Bool×Zd×Unit×Zm×Zf×Ze×Zi×dD×qN) (Option.bind (α:=Bool) (if(!decide ((nth aU aw au).2.1.2.2.1=(-1:Int)))=true then(some (!decide ((nth aU aw au).2.2.1.2.2.1=(-1:Int)))) else(some false)) fun v7=>if v7=true then(Option.bind (qM (nth aU aw au).2.1 ay az a0 a1 a2 a3 a4 a5 ax a6 a7 a8) fun⟨m,a,b,c,d,e,f,g,h,i,j,k,l⟩=>Option.bind (qM (nth aU aw au).2.2.1 a b c d e f g h i j k l) fun⟨n,z,o,p,q,r,s,t,u,v,w,x,y⟩=>some (.bA (m,n,aw,av,au,o,p,q,r,s,t,u,v,w,x,y,z,nth aU aw au))) else(some (.bA (y4,y5,aw,av,au,az,a0,a1,a2,a3,a4,a5,ax,a6,a7,a8,ay,nth aU aw au)))) fun⟨ab,ac,ao,ap,aq,ad,ae,af,ag,ah,ai,aj,ak,al,am,an,ar,aa⟩=>Option.bind (Ie aa.1 ab ac) fun y10=>if(!y10)=true then(cw (some (false,ad,ae,af,ag,ah,ai,aj,ak,al,am,an))) else(am3 (ao,ap,aZ (aq+1),ad,ae,af,ag,ah,ai,aj,ak,al,am,an,ar))) else none) else none) else(some (.bA (az,a0,a1,a2,a3,a4,a5,ax,a6,a7,a8)))
def nX(a0:dD)(a1:bL)(a2:Zc)(a3:Int)(a4:Int)(a5:Bool)(a6:Zd)(a7:Unit)(a8:Zm)(a9:Zf)(a10:Ze)(a11:Zi):Option (Bool×YT):=
 aH (U:=YT) (gI (Int.toNat (List.length a0.2.2.2.1:Int)+1) (a0.2.2.2.1,(List.length a0.2.2.2.1:Int),0,a1,a2,a3,a4,a5,a6,a7,a8,a9,a10,a11,a0)) fun⟨a,b,c,d,e,f,g,h,i,j,k⟩=>some (true,a,b,c,d,e,f,g,h,i,j,k)
def ahF:SS:=⟨53,93,[tP 5 21,(7,.func 218 .nil (.cons (pP 20) (.cons (pP 19) (.cons (pP 21) .nil)))),tP 9 25,tI 10,tI 11,(14,.val (.slice 120 aU)),tI 15,tI 16],[(0,fB 2 3 4),(1,.row 50 48 bN),(2,.map aF dZ),(3,.map aM .bool),(4,.row 110 40 aM),(19,.var (.aS .ptr) (pP 0)),(20,bV bZ),(21,.var (.slice 48 bN) (.own 1)),(25,bV aU)],[]⟩
def Ux:List (Nat×dj):=[(0,fB 2 3 4),(1,.row 50 48 bN),(2,.map aF dZ),(3,.map aM .bool),(4,.row 110 40 aM)]
def ahG:SS:=⟨53,93,[],Ux,[]⟩
def ahH:SS:=⟨53,93,[tP 5 21,(7,.func 218 .nil (.cons (pP 20) (.cons (pP 19) (.cons (pP 21) .nil)))),(14,.val (.slice 120 aU)),tI 15,tI 16],[(0,fB 2 3 4),(1,.row 50 48 bN),(2,.map aF dZ),(3,.map aM .bool),(4,.row 110 40 aM),(19,.var (.aS .ptr) (pP 0)),(20,bV bZ),(21,.var (.slice 48 bN) (.own 1))],[]⟩
def ahI:SS:=⟨53,93,[(6,vB)],Ux,[]⟩
def QZ:aX:=aE G [.tmp 6] 165 [pP 0,.val bZ,.own 1] Ux 93 ahI [0,1,2,3,4] (.bH (LR nX))
theorem Q2:hS QZ:=
 cO ⟨[hE 5 [cA 0,cA 0],hD 6 37 [],hE 7 [cB 1 [(0,20),(1,19),(2,21),(3,0),(4,1),(5,2),(6,3),(7,4)] [],cB 1 [(0,20),(1,19),(2,21),(3,0),(4,1),(5,2),(6,3),(7,4)] []],hA 8 2],[(8,ahF),(11,ahG)],[],[(3,⟨ahH,fun u2=>Int.toNat u2.2.1+1⟩)],[],[]⟩ (hq SO (hq QQ (hq ahE hz))) aJ Tryz.call165 Tryz.func165
def nk(q0_:Zl)(q1_:Zk):Nat→Int×Int×Int×dD×Int×bL×Zc×Int×Int×Bool×Zd×Unit×Zf×Ze×AJ×Zm×Zi→Option (cH (dD×Int×Zw) (Bool×dD×Int×Zw)):=aK fun anC ⟨ac,aa,z,ao,ap,ad,ae,af,ag,ah,ai,aj,ak,al,ab,an,am⟩=>if(decide (z<aa))=true then(Option.bind (q0_ ((ab.2.2.1,ac,z,()),ad,ae,af,ag,ah,ai,aj,ak,al,am,())) fun⟨b,c,d,e,f,g,h,i,j,a,k⟩=>if a.2.2.2.1=true then(if(an.length+List.length [a.1])*48≤aG then(Option.bind (q1_ (ao,ap,an++[a.1],b,c,d,e,f,g,h,i,j,k,())) fun⟨l,m,n,o,p,q,r,s,t,u,v,w,x,y⟩=>if l=true then(cw (some (true,m,n,o,p,q,r,s,t,u,v,w,x,y))) else(if 0≤(aZ ((x.length:Int) -(1:Int))) then(if(aZ ((x.length:Int) -(1:Int)))≤(x.length:Int) then(anC (ac,aa,aZ (z+1),m,n,o,p,q,r,s,t,u,v,w,ab,List.take ((Int.toNat (aZ ((x.length:Int) -(1:Int)))) -0) x,y)) else none) else none)) else none) else(anC (ac,aa,aZ (z+1),ao,ap,b,c,d,e,f,g,h,i,j,ab,an,k))) else(some (.bA (ao,ap,ad,ae,af,ag,ah,ai,aj,ak,al,an,am)))
def jt(q0_:Zl)(q1_:Zk)(a0:dD)(a1:Int)(a2:Zm)(a3:bL)(a4:Zc)(a5:Int)(a6:Int)(a7:Bool)(a8:Zd)(a9:Unit)(a10:Zf)(a11:Ze)(a12:Zi):Option (Bool×dD×Int×Zw):=
 if(decide ((a2.length:Int)=(List.length a0.2.2.1:Int)))=true then(Option.bind (nX a0 a3 a4 a5 a6 a7 a8 a9 a2 a10 a11 a12) fun⟨a,b,c,d,e,f,g,h,k,i,j,l⟩=>some (a,a0,a1,b,c,d,e,f,g,h,i,j,k,l)) else(if 0≤(a2.length:Int) then(if(a2.length:Int)<(List.length a0.2.2.1:Int) then(aH (U:=Int×Int×dD×Int×Zm×bL×Zc×Int×Int×Bool×Zd×Unit×Zf×Ze×Zi×AJ) (if(!decide ((nth aO a0.2.2.1 (a2.length:Int)).2.2.2.1.2.2.1=(-1:Int)))=true then(if 0≤(nth aO a0.2.2.1 (a2.length:Int)).2.2.2.1.2.2.1 then(if(nth aO a0.2.2.1 (a2.length:Int)).2.2.2.1.2.2.1<(a2.length:Int) then(if 0≤(nth aO a0.2.2.1 (a2.length:Int)).2.2.2.1.2.2.2.1 then(if(nth aO a0.2.2.1 (a2.length:Int)).2.2.2.1.2.2.2.1<(List.length (nth bN a2 (nth aO a0.2.2.1 (a2.length:Int)).2.2.2.1.2.2.1).2.2.2.1:Int) then(some (.bA (nth qr (nth bN a2 (nth aO a0.2.2.1 (a2.length:Int)).2.2.2.1.2.2.1).2.2.2.1 (nth aO a0.2.2.1 (a2.length:Int)).2.2.2.1.2.2.2.1,4,a0,a1,a2,a3,a4,a5,a6,a7,a8,a9,a10,a11,a12,nth aO a0.2.2.1 (a2.length:Int)))) else none) else none) else none) else none) else(some (.bA (a1,4,a0,a1,a2,a3,a4,a5,a6,a7,a8,a9,a10,a11,a12,nth aO a0.2.2.1 (a2.length:Int))))) fun⟨o,ab,p,q,r,s,t,u,v,w,n,x,y,z,aa,m⟩=>aH (U:=Int×Int×dD×Int×Zm×bL×Zc×Int×Int×Bool×Zd×Unit×Zf×Ze×Zi×AJ) (if(aQ qr .bool m.2.2.1 (bE n))=true then(some (.bA (o,1,p,q,r,s,t,u,v,w,n,x,y,z,aa,m))) else(some (.bA (o,ab,p,q,r,s,t,u,v,w,n,x,y,z,aa,m)))) fun⟨ad,ac,ae,af,aq,ag,ah,ai,aj,ak,al,am,an,ao,ar,ap⟩=>aH (U:=dD×Int×Zw) (nk q0_ q1_ (Int.toNat ac+1) (ad,ac,0,ae,af,ag,ah,ai,aj,ak,al,am,an,ao,ap,aq,ar)) fun⟨au,av,aw,ax,ay,az,ba,bb,bc,bd,be,bf,bg⟩=>some (false,au,av,aw,ax,ay,az,ba,bb,bc,bd,be,bf,bg)) else none) else none)
def YK:SS:=⟨77,117,[tP 0 0,tP 2 2,tP 4 4,tP 6 22,tI 7,tI 8],[(0,.var (.slice 48 bN) (.own 5)),(1,bV bZ),(2,.var (.aS .ptr) (pP 6)),(3,bI),(4,.var (.aS .func) (.func 164 .nil (.cons (pP 0) (.cons (pP 1) (.cons (pP 2) (.cons (pP 3) (.cons (pP 4) .nil))))))),(5,.row 50 48 bN),(6,fB 7 8 9),(7,.map aF dZ),(8,.map aM .bool),(9,.row 110 40 aM),(22,bV aO)],[]⟩
def ahJ:SS:=⟨77,117,[],[(0,.var (.slice 48 bN) (.own 97)),(1,bV bZ),(2,.var (.aS .ptr) (pP 6)),(3,bI),(4,.var (.aS .func) (.func 164 .nil (.cons (pP 0) (.cons (pP 1) (.cons (pP 2) (.cons (pP 3) (.cons (pP 4) .nil))))))),(6,fB 7 8 98),(7,.map aF dZ),(8,.map aM .bool),(97,.row 50 48 bN),(98,.row 110 40 aM)],[]⟩
def ahK:SS:=⟨77,117,[tP 0 0,tP 2 2,tP 4 4,tP 6 22,tI 7,tI 51,tI 52],[(0,.var (.slice 48 bN) (.own 95)),(1,bV bZ),(2,.var (.aS .ptr) (pP 6)),(3,bI),(4,.var (.aS .func) (.func 164 .nil (.cons (pP 0) (.cons (pP 1) (.cons (pP 2) (.cons (pP 3) (.cons (pP 4) .nil))))))),(6,fB 7 8 96),(7,.map aF dZ),(8,.map aM .bool),(22,bV aO),(95,.row 50 48 bN),(96,.row 110 40 aM)],[]⟩
def ahL:SS:=⟨77,117,[(5,vB)],WH,[]⟩
def Q3(q0_:Zl)(q1_:Zk):aX:=aE G [.tmp 5] 164 [pP 0,pP 1,pP 2,pP 3,pP 4] WI 117 ahL [0,1,2,3,4,6,7,8,99,100] (.bH (IZ (jt q0_ q1_)))
theorem Q4(q0_:Zl)(q1_:Zk)(h0_:hS (uq q0_))(h1_:hS (pz q1_)):hS (Q3 q0_ q1_):=
 cO ⟨[hE 2 [cB 0 [(0,6),(1,5),(2,7),(3,8),(4,9)] []],hE 12 [cB 1 [(0,6),(1,7),(2,8),(3,96)] [(93,77)]],hE 15 [cB 2 [(0,0),(1,1),(2,2),(3,3),(4,4),(5,84),(6,6),(7,7),(8,8),(9,77)] [(99,86),(100,93)]],(17,⟨[],[],[],none,[],[],[.oz 0 [] 94]⟩)],[(7,YK),(9,YK),(19,ahJ)],[],[(10,⟨ahK,fun u5=>Int.toNat u5.2.1+1⟩)],[],[]⟩ (hq Q2 (hq h0_ (hq h1_ hz))) aJ Tryz.call164 Tryz.func164
def fe:Nat→Zl×Zk:=@Nat.rec (fun _=>(cF×bL×(Zc)×Int×Int×Bool×(Zd)×Unit×(Zf)×(Ze)×(Zi)×Unit→Option Wy)×(dD×Int×(Zm)×bL×(Zc)×Int×Int×Bool×(Zd)×Unit×(Zf)×(Ze)×(Zi)×Unit→Option (Bool×dD×Int×Zw))) (fun _=>none,fun _=>none) (fun _ ih=>(fun d=>i7 ih.1 ih.2 d.1 d.2.1 d.2.2.1 d.2.2.2.1 d.2.2.2.2.1 d.2.2.2.2.2.1 d.2.2.2.2.2.2.1 d.2.2.2.2.2.2.2.1 d.2.2.2.2.2.2.2.2.1 d.2.2.2.2.2.2.2.2.2.1 d.2.2.2.2.2.2.2.2.2.2.1,fun d=>jt ih.1 ih.2 d.1 d.2.1 d.2.2.1 d.2.2.2.1 d.2.2.2.2.1 d.2.2.2.2.2.1 d.2.2.2.2.2.2.1 d.2.2.2.2.2.2.2.1 d.2.2.2.2.2.2.2.2.1 d.2.2.2.2.2.2.2.2.2.1 d.2.2.2.2.2.2.2.2.2.2.1 d.2.2.2.2.2.2.2.2.2.2.2.1 d.2.2.2.2.2.2.2.2.2.2.2.2.1))
theorem Ig(n:Nat):hS (uq ((fe n).1))∧hS (pz ((fe n).2)):=by
 induction n with
 |zero=>exact⟨aX.J0,aX.J0⟩
 |succ n ih=>exact⟨Uw _ _ ih.1 ih.2,Q4 _ _ ih.1 ih.2⟩
def lG(a0:cF)(a1:bL)(a2:Zc)(a3:Int)(a4:Int)(a5:Bool)(a6:Zd)(a7:Unit)(a8:Zf)(a9:Ze)(a10:Zi):Option Wy:=(fe eP).1 (a0,a1,a2,a3,a4,a5,a6,a7,a8,a9,a10,())
def Q5:aX:=aE G [.cell 4 79] 62 [pP 0,.val aF] Hd 115 C5 [0,1,2,93] (.bH (LO lG))
theorem Q6:hS Q5:=(Ig eP).1
end Go.Proofs.YtpmlkhjpbjnagaaGreat
