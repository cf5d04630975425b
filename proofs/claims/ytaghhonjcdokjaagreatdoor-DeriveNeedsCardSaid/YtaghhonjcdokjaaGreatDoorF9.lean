/- part -/
import Derived.Test.YtaghhonjcdokjaaGreatDoorUF
noncomputable section
namespace Go.Proofs.YtaghhonjcdokjaaGreatDoor
open Go.Ax
def jn(q0_:Zc)(q1_:Zb)(a0:j7)(a1:cD)(a2:Zg)(a3:Int)(a4:Int)(a5:Bool)(a6:Ze)(a7:Unit)(a8:Zk)(a9:Zh)(a10:Zl):Option ZW:=
 if(de bS a0 a8)=true then(some (a1,a2,a3,a4,a5,a6,a7,a8,a9,bE bS fC a0 a8,a10)) else(aI (U:=cD×Zg×Int×Int×Bool×Ze×Unit×Zk×Zh×j7×Int×Int×Int×Int×Bool×IJ×Zl) (if(bE (.int .i64) .bool a0.1 (bK a6))=true then(Option.bind (uO q0_ q1_ a0 a1 a2 a3 a4 a5 a6 a7 a8 a9 a10) fun⟨a,b,c,d,e,f,g,h,i,j,k⟩=>some (.brk (a,b,c,d,e,f,g,h,i,a0,0,0,0,0,false,j,k))) else(Option.bind (gN a0 a1 a2 a3 a4 a5 a6 a7 a8 a9 a10) fun⟨l,m,n,o,p,q,r,s,t,u,v⟩=>AK (.var mi (.cons (.val iY a1) (.cons (.val (.map bS (.slice 64 dq)) a2) (.cons (.val (.int .i64) a3) (.cons (.val (.int .i64) a4) (.cons (.val .bool a5) (.cons (.val (.map (.int .i64) .bool) a6) (.cons (.mp 1) (.cons (.mp 2) (.cons (.own 3) (.val .unit a7))))))))))) (.var mi (.cons (.val iY l) (.cons (.val (.map bS (.slice 64 dq)) m) (.cons (.val (.int .i64) n) (.cons (.val (.int .i64) o) (.cons (.val .bool p) (.cons (.val (.map (.int .i64) .bool) q) (.cons (.mp 1) (.cons (.mp 2) (.cons (.own 3) (.val .unit r))))))))))) (AK (.map bS fC a8) (.map bS fC s) (AK (.map bJ .bool a9) (.map bJ .bool t) (AK (.row 64 40 bJ a10) (.row 64 40 bJ u) (Option.bind (f77 v a0.1 a0.2.1 a0.2.2.1 a3 a4) fun⟨y,x,w⟩=>Option.bind (ng w) fun y5=>Option.bind (iu a10 y5 a1 a2 a3 a4 a5 a6 a7 a8 a9) fun⟨_,z,aa,ab,ac,ad,ae,af,ag,ah,ai⟩=>some (.brk (z,aa,ab,ac,ad,ae,af,ag,ah,a0,0,0,0,0,false,(x,0,([]:ZG),y,()),ai)))))))) fun⟨ak,al,am,an,ao,ap,aq,aj,av,ar,_,_,_,_,_,au,aw⟩=>if List.length aj+1≤aG then(some (ak,al,am,an,ao,ap,aq,bF bS ar au aj,av,au,aw)) else none)
def Vz:SS:=⟨75,115,[tP 0 0,tP 3 19,tP 4 20,tP 7 23],[(0,fB 1 2 92),(1,.map bS fC),(2,.map bJ .bool),(19,bV bS),(20,.var fC (.cons (.cons vI (.cons vI (.cons vI (.cons .aF .nil)))) (.cons vI (.cons .aF (.cons vB .nil))))),(23,bV fC),(92,.row 64 40 bJ)],[]⟩
def VA:SS:=⟨75,115,[tP 4 20],[(0,fB 1 2 93),(1,.map bS fC),(2,.map bJ .bool),(20,bV fC),(93,.row 64 40 bJ)],[]⟩
def Qf(q0_:Zc)(q1_:Zb):aX:=aE G [.cell 4 88] 42 [pP 0,.val bS] [(0,fB 1 2 3),(1,.map bS fC),(2,.map bJ .bool),(3,.row 64 40 bJ)] 115 VA [0,1,2,93] (.bC (ET (jn q0_ q1_)))
theorem Qg(q0_:Zc)(q1_:Zb)(h0_:hS (uN q0_))(h1_:hS (pM q1_)):hS (Qf q0_ q1_):=
 cO ⟨[hE 6 [cB 0 [(0,0),(1,1),(2,2),(3,3)] [(65,47)]],hE 7 [⟨[1],[(0,0),(1,1),(2,2),(3,3)],[],[],[0,1,2,3]⟩,cA 2],hE 9 [⟨[3],[],[(18,80),(19,91)],[(0,0)],[]⟩,cB 4 [(0,3),(1,91),(2,80),(3,0),(4,1),(5,2)] [(32,81)]]],[(10,Vz)],[],[],[],[]⟩ (hq (QH q0_ q1_ h0_ h1_) (hq QJ (hq x77 (hq RQ (hq N3 hz))))) aH Tryz.call42 Tryz.func42
def f254(a0:dB)(a1:oM):Option (Bool×dF):=
 Option.bind (f107 a0 a1.2.2.1 a1.2.2.2.1) fun⟨a,b⟩=>Option.bind (α:=Bool) (if(!a)=true then(some true) else(Option.bind (f114 a0 b) fun y2=>if(!y2)=true then(some true) else(if(decide ((0:Int)≤b.2.2.2.2.1))=true then(if 0≤b.2.2.2.2.1 then(if b.2.2.2.2.1<(List.length a0.1.2.1:Int) then(Option.bind (f52 a0 (nth aS a0.1.2.1 b.2.2.2.2.1)) fun y3=>some (!y3)) else none) else none) else(some false)))) fun v4=>if v4=true then(some (false,b)) else(some (true,b))
def VB:SS:=⟨42,82,[tP 4 20,(5,vB)],[(20,bV fp)],[]⟩
def VD:aX:=aE G [.cell 4 223,.tmp 5] 254 [.val dr,.val eQ] [] 82 VB [] (.bC (u2 f254))
theorem VE:hS VD:=
 cO (hR [hA 1 0,hD 2 39 [cA 1,cA 2]]) (hq Jw (hq QX (hq x52 hz))) aH Tryz.call254 Tryz.func254
def f245(a0:cH)(a1:oM)(a2:Int):Option ZD:=
 Option.bind (f254 (a0,()) a1) fun⟨a,b⟩=>aI (U:=Int×cH×dF) (Option.bind (α:=Bool) (if(!a)=true then(some true) else(if(decide (a2<(0:Int)))=true then(some true) else(some (decide ((1048576:Int)<a2))))) fun v3=>if v3=true then(cw (some (0,120))) else(some (.brk (a2,a0,b)))) fun⟨e,d,c⟩=>if(decide ((0:Int)≤c.2.2.2.2.1))=true then(if 0≤c.2.2.2.2.1 then(if c.2.2.2.2.1<(List.length d.2.1:Int) then(some (bB (e*(nth aS d.2.1 c.2.2.2.2.1).2.2.2.2.1),0)) else none) else none) else(some (e,0))
def VF:SS:=⟨42,82,[tI 2,tP 3 19,tP 9 25],[(19,bV fW),(25,bV fp)],[]⟩
def VG:SS:=⟨42,82,[tI 6,tI 7],[],[]⟩
def VH:aX:=aE G [.tmp 6,.tmp 7] 245 [.val fW,.val eQ,vI] [] 82 VG [] (.bC (u3 f245))
theorem VI:hS VH:=
 cO ⟨[hA 2 0,hD 3 28 []],[(5,VF)],[],[],[],[]⟩ (hq VE hz) aH Tryz.call245 Tryz.func245
def pF(a0:gv)(a1:iA)(a2:cD)(a3:Zg)(a4:Int)(a5:Int)(a6:Bool)(a7:Ze)(a8:Unit)(a9:ZG)(a10:Zk)(a11:Zh)(a12:Zl):Option (Int×iA×ZY):=
 if 0≤a0.2.2.1 then(if a0.2.2.1<(List.length a1.2.2.1:Int) then(Option.bind (f222 a0 a9) fun y1=>Option.bind (f245 a2.1.1 ([],[],(nth aL a1.2.2.1 a0.2.2.1).2.2.1,a0.2.2.2.1,()) y1) fun⟨a,_⟩=>some (a,a1,a2,a3,a4,a5,a6,a7,a8,a9,a10,a11,a12)) else none) else none
def VJ:SS:=⟨34,74,[tI 5],[(0,bV bQ),(1,.var (.aP .ptr) (pP 3)),(2,.var (.slice 48 fj) (.own 4)),(3,fB 5 6 7),(4,.row 49 48 fj),(5,.map bS fC),(6,.map bJ .bool),(7,.row 64 40 bJ)],[]⟩
def Ll:aX:=aE G [.tmp 5] 244 [.val aS,pP 0,pP 1,pP 2] [(0,bV bQ),(1,.var (.aP .ptr) (pP 3)),(2,.var (.slice 48 fj) (.own 4)),(3,fB 5 6 7),(4,.row 49 48 fj),(5,.map bS fC),(6,.map bJ .bool),(7,.row 64 40 bJ)] 74 VJ [0,1,2,3,4,5,6,7] (.bC (KN pF))
theorem Lm:hS Ll:=
 cO (hR [hE 2 [cA 0,cA 1]]) (hq QF (hq VI hz)) aH Tryz.call244 Tryz.func244
def EU(a0:Int)(a1:Int):Zo:=
 some (!decide (a0=a1))
def VK:SS:=⟨6,46,[(2,vB)],[],[]⟩
def Ln:aX:=aE G [.tmp 2] 258 [.cI (.int .i64),.cI (.int .i64)] [] 46 VK [] (.bC (u2 EU))
theorem Lo:hS Ln:=
 cO (hR []) hz aH Tryz.call258 Tryz.func258
def EV(a0:Int)(a1:Int):Zo:=
 some (decide (a0≤a1))
def VL:SS:=⟨6,46,[(2,vB)],[],[]⟩
def Lp:aX:=aE G [.tmp 2] 257 [.cI (.int .i64),.cI (.int .i64)] [] 46 VL [] (.bC (u2 EV))
theorem Lq:hS Lp:=
 cO (hR []) hz aH Tryz.call257 Tryz.func257
def EW(a0:Int)(a1:Int):Zo:=
 some (decide (a0<a1))
def VM:SS:=⟨6,46,[(2,vB)],[],[]⟩
def Lr:aX:=aE G [.tmp 2] 256 [.cI (.int .i64),.cI (.int .i64)] [] 46 VM [] (.bC (u2 EW))
theorem Ls:hS Lr:=
 cO (hR []) hz aH Tryz.call256 Tryz.func256
def EX(a0:Int)(a1:Int):Zo:=
 some (decide (a0=a1))
def VN:SS:=⟨6,46,[(2,vB)],[],[]⟩
def Lt:aX:=aE G [.tmp 2] 255 [.cI (.int .i64),.cI (.int .i64)] [] 46 VN [] (.bC (u2 EX))
theorem Lu:hS Lt:=
 cO (hR []) hz aH Tryz.call255 Tryz.func255
def f246(a0:Int)(a1:Int)(a2:Int):Zo:=
 if aY (.int .i64) a0 (1:Int)=true then(Option.bind (EX a1 a2) fun y4=>some y4) else(if aY (.int .i64) a0 (2:Int)=true then(Option.bind (EW a1 a2) fun y3=>some y3) else(if aY (.int .i64) a0 (3:Int)=true then(Option.bind (EV a1 a2) fun y2=>some y2) else(if aY (.int .i64) a0 (4:Int)=true then(Option.bind (EU a1 a2) fun y1=>some y1) else(some false))))
def VO:SS:=⟨26,66,[(6,vB)],[],[]⟩
def VP:aX:=aE G [.tmp 6] 246 [vI,vI,vI] [] 66 VO [] (.bC (u3 f246))
theorem VQ:hS VP:=
 cO (hR [hE 3 [⟨[0,1,2,3],[],[],[],[]⟩]]) (hq Lo (hq Lq (hq Ls (hq Lu hz)))) aH Tryz.call246 Tryz.func246
def gM:Nat→Zz×Int×Int×cD×Zg×Int×Int×Bool×Ze×Unit×ZG×Zk×Zh×Zl×iA→Option (cV ZY (Bool×ZY)):=aM fun ahA ⟨aw,av,au,az,a0,a1,a2,a3,a4,a5,ax,a6,a7,a8,ay⟩=>if(decide (au<av))=true then(if 0≤au then(if au<(List.length aw:Int) then(Option.bind (f222 (nth aQ aw au).2.1 ax) fun y4=>Option.bind (f222 (nth aQ aw au).2.2.1 ax) fun y5=>aI (U:=Int×Int×Zz×Int×Int×cD×Zg×Int×Int×Bool×Ze×Unit×ZG×Zk×Zh×Zl×iA×oL) (Option.bind (α:=Bool) (if(!decide ((nth aQ aw au).2.1.2.2.1=(-1:Int)))=true then(some (!decide ((nth aQ aw au).2.2.1.2.2.1=(-1:Int)))) else(some false)) fun v7=>if v7=true then(Option.bind (pF (nth aQ aw au).2.1 ay az a0 a1 a2 a3 a4 a5 ax a6 a7 a8) fun⟨m,a,b,c,d,e,f,g,h,i,j,k,l⟩=>Option.bind (pF (nth aQ aw au).2.2.1 a b c d e f g h i j k l) fun⟨n,z,o,p,q,r,s,t,u,v,w,x,y⟩=>some (.brk (m,n,aw,av,au,o,p,q,r,s,t,u,v,w,x,y,z,nth aQ aw au))) else(some (.brk (y4,y5,aw,av,au,az,a0,a1,a2,a3,a4,a5,ax,a6,a7,a8,ay,nth aQ aw au)))) fun⟨ab,ac,ao,ap,aq,ad,ae,af,ag,ah,ai,aj,ak,al,am,an,ar,aa⟩=>Option.bind (f246 aa.1 ab ac) fun y10=>if(!y10)=true then(cw (some (false,ad,ae,af,ag,ah,ai,aj,ak,al,am,an))) else(ahA (ao,ap,bB (aq+1),ad,ae,af,ag,ah,ai,aj,ak,al,am,an,ar))) else none) else none) else(some (.brk (az,a0,a1,a2,a3,a4,a5,ax,a6,a7,a8)))
def nD(a0:iA)(a1:cD)(a2:Zg)(a3:Int)(a4:Int)(a5:Bool)(a6:Ze)(a7:Unit)(a8:ZG)(a9:Zk)(a10:Zh)(a11:Zl):Option (Bool×ZY):=
 aI (U:=ZY) (gM (Int.toNat (List.length a0.2.2.2.1:Int)+1) (a0.2.2.2.1,(List.length a0.2.2.2.1:Int),0,a1,a2,a3,a4,a5,a6,a7,a8,a9,a10,a11,a0)) fun⟨a,b,c,d,e,f,g,h,i,j,k⟩=>some (true,a,b,c,d,e,f,g,h,i,j,k)
def VT:SS:=⟨53,93,[tP 5 21,(7,.func 244 .nil (.cons (pP 20) (.cons (pP 19) (.cons (pP 21) .nil)))),tP 9 25,tI 10,tI 11,(14,.val (.slice 120 aQ)),tI 15,tI 16],[(0,fB 2 3 4),(1,.row 49 48 fj),(2,.map bS fC),(3,.map bJ .bool),(4,.row 64 40 bJ),(19,.var (.aP .ptr) (pP 0)),(20,bV bQ),(21,.var (.slice 48 fj) (.own 1)),(25,bV aQ)],[]⟩
def VU:SS:=⟨53,93,[],[(0,fB 2 3 4),(1,.row 49 48 fj),(2,.map bS fC),(3,.map bJ .bool),(4,.row 64 40 bJ)],[]⟩
def VV:SS:=⟨53,93,[tP 5 21,(7,.func 244 .nil (.cons (pP 20) (.cons (pP 19) (.cons (pP 21) .nil)))),(14,.val (.slice 120 aQ)),tI 15,tI 16],[(0,fB 2 3 4),(1,.row 49 48 fj),(2,.map bS fC),(3,.map bJ .bool),(4,.row 64 40 bJ),(19,.var (.aP .ptr) (pP 0)),(20,bV bQ),(21,.var (.slice 48 fj) (.own 1))],[]⟩
def VW:SS:=⟨53,93,[(6,vB)],[(0,fB 2 3 4),(1,.row 49 48 fj),(2,.map bS fC),(3,.map bJ .bool),(4,.row 64 40 bJ)],[]⟩
def Lv:aX:=aE G [.tmp 6] 221 [pP 0,.val bQ,.own 1] [(0,fB 2 3 4),(1,.row 49 48 fj),(2,.map bS fC),(3,.map bJ .bool),(4,.row 64 40 bJ)] 93 VW [0,1,2,3,4] (.bC (Qd nD))
theorem Lw:hS Lv:=
 cO ⟨[hE 5 [cA 0,cA 0],hD 6 37 [],hE 7 [cB 1 [(0,20),(1,19),(2,21),(3,0),(4,1),(5,2),(6,3),(7,4)] [],cB 1 [(0,20),(1,19),(2,21),(3,0),(4,1),(5,2),(6,3),(7,4)] []],hA 8 2],[(8,VT),(11,VU)],[],[(3,⟨VV,fun u2=>Int.toNat u2.2.1+1⟩)],[],[]⟩ (hq QF (hq Lm (hq VQ hz))) aH Tryz.call221 Tryz.func221
def mD(q0_:Zc)(q1_:Zb):Nat→Int×Int×Int×iA×Int×cD×Zg×Int×Int×Bool×Ze×Unit×Zk×Zh×sP×ZG×Zl→Option (cV (iA×Int×Zr) (Bool×iA×Int×Zr)):=aM fun rec6 ⟨ac,aa,z,ao,ap,ad,ae,af,ag,ah,ai,aj,ak,al,ab,an,am⟩=>if(decide (z<aa))=true then(Option.bind (q0_ ((ab.2.2.1,ac,z,()),ad,ae,af,ag,ah,ai,aj,ak,al,am,())) fun⟨b,c,d,e,f,g,h,i,j,a,k⟩=>if a.2.2.2.1=true then(if(List.length an+List.length [a.1])*48≤aG then(Option.bind (q1_ (ao,ap,an++[a.1],b,c,d,e,f,g,h,i,j,k,())) fun⟨l,m,n,o,p,q,r,s,t,u,v,w,x,y⟩=>if l=true then(cw (some (true,m,n,o,p,q,r,s,t,u,v,w,x,y))) else(if 0≤(bB ((List.length x:Int) -(1:Int))) then(if(bB ((List.length x:Int) -(1:Int)))≤(List.length x:Int) then(rec6 (ac,aa,bB (z+1),m,n,o,p,q,r,s,t,u,v,w,ab,List.take ((Int.toNat (bB ((List.length x:Int) -(1:Int)))) -0) x,y)) else none) else none)) else none) else(rec6 (ac,aa,bB (z+1),ao,ap,b,c,d,e,f,g,h,i,j,ab,an,k))) else(some (.brk (ao,ap,ad,ae,af,ag,ah,ai,aj,ak,al,an,am)))
def jz(q0_:Zc)(q1_:Zb)(a0:iA)(a1:Int)(a2:ZG)(a3:cD)(a4:Zg)(a5:Int)(a6:Int)(a7:Bool)(a8:Ze)(a9:Unit)(a10:Zk)(a11:Zh)(a12:Zl):Option (Bool×iA×Int×Zr):=
 if(decide ((List.length a2:Int)=(List.length a0.2.2.1:Int)))=true then(Option.bind (nD a0 a3 a4 a5 a6 a7 a8 a9 a2 a10 a11 a12) fun⟨a,b,c,d,e,f,g,h,k,i,j,l⟩=>some (a,a0,a1,b,c,d,e,f,g,h,i,j,k,l)) else(if 0≤(List.length a2:Int) then(if(List.length a2:Int)<(List.length a0.2.2.1:Int) then(aI (U:=Int×Int×iA×Int×ZG×cD×Zg×Int×Int×Bool×Ze×Unit×Zk×Zh×Zl×sP) (if(!decide ((nth aL a0.2.2.1 (List.length a2:Int)).2.2.2.1.2.2.1=(-1:Int)))=true then(if 0≤(nth aL a0.2.2.1 (List.length a2:Int)).2.2.2.1.2.2.1 then(if(nth aL a0.2.2.1 (List.length a2:Int)).2.2.2.1.2.2.1<(List.length a2:Int) then(if 0≤(nth aL a0.2.2.1 (List.length a2:Int)).2.2.2.1.2.2.2.1 then(if(nth aL a0.2.2.1 (List.length a2:Int)).2.2.2.1.2.2.2.1<(List.length (nth fj a2 (nth aL a0.2.2.1 (List.length a2:Int)).2.2.2.1.2.2.1).2.2.2.1:Int) then(some (.brk (nth (.int .i64) (nth fj a2 (nth aL a0.2.2.1 (List.length a2:Int)).2.2.2.1.2.2.1).2.2.2.1 (nth aL a0.2.2.1 (List.length a2:Int)).2.2.2.1.2.2.2.1,4,a0,a1,a2,a3,a4,a5,a6,a7,a8,a9,a10,a11,a12,nth aL a0.2.2.1 (List.length a2:Int)))) else none) else none) else none) else none) else(some (.brk (a1,4,a0,a1,a2,a3,a4,a5,a6,a7,a8,a9,a10,a11,a12,nth aL a0.2.2.1 (List.length a2:Int))))) fun⟨o,ab,p,q,r,s,t,u,v,w,n,x,y,z,aa,m⟩=>aI (U:=Int×Int×iA×Int×ZG×cD×Zg×Int×Int×Bool×Ze×Unit×Zk×Zh×Zl×sP) (if(bE (.int .i64) .bool m.2.2.1 (bK n))=true then(some (.brk (o,1,p,q,r,s,t,u,v,w,n,x,y,z,aa,m))) else(some (.brk (o,ab,p,q,r,s,t,u,v,w,n,x,y,z,aa,m)))) fun⟨ad,ac,ae,af,aq,ag,ah,ai,aj,ak,al,am,an,ao,ar,ap⟩=>aI (U:=iA×Int×Zr) (mD q0_ q1_ (Int.toNat ac+1) (ad,ac,0,ae,af,ag,ah,ai,aj,ak,al,am,an,ao,ap,aq,ar)) fun⟨au,av,aw,ax,ay,az,ba,bb,bc,bd,be,bf,bg⟩=>some (false,au,av,aw,ax,ay,az,ba,bb,bc,bd,be,bf,bg)) else none) else none)
def Tv:SS:=⟨77,117,[tP 0 0,tP 2 2,tP 4 4,tP 6 22,tI 7,tI 8],[(0,.var (.slice 48 fj) (.own 5)),(1,bV bQ),(2,.var (.aP .ptr) (pP 6)),(3,bI),(4,.var (.aP .func) (.func 220 .nil (.cons (pP 0) (.cons (pP 1) (.cons (pP 2) (.cons (pP 3) (.cons (pP 4) .nil))))))),(5,.row 49 48 fj),(6,fB 7 8 9),(7,.map bS fC),(8,.map bJ .bool),(9,.row 64 40 bJ),(22,bV aL)],[]⟩
def VX:SS:=⟨77,117,[],[(0,.var (.slice 48 fj) (.own 97)),(1,bV bQ),(2,.var (.aP .ptr) (pP 6)),(3,bI),(4,.var (.aP .func) (.func 220 .nil (.cons (pP 0) (.cons (pP 1) (.cons (pP 2) (.cons (pP 3) (.cons (pP 4) .nil))))))),(6,fB 7 8 98),(7,.map bS fC),(8,.map bJ .bool),(97,.row 49 48 fj),(98,.row 64 40 bJ)],[]⟩
def VY:SS:=⟨77,117,[tP 0 0,tP 2 2,tP 4 4,tP 6 22,tI 7,tI 51,tI 52],[(0,.var (.slice 48 fj) (.own 95)),(1,bV bQ),(2,.var (.aP .ptr) (pP 6)),(3,bI),(4,.var (.aP .func) (.func 220 .nil (.cons (pP 0) (.cons (pP 1) (.cons (pP 2) (.cons (pP 3) (.cons (pP 4) .nil))))))),(6,fB 7 8 96),(7,.map bS fC),(8,.map bJ .bool),(22,bV aL),(95,.row 49 48 fj),(96,.row 64 40 bJ)],[]⟩
def VZ:SS:=⟨77,117,[(5,vB)],[(0,.var (.slice 48 fj) (.own 99)),(1,bV bQ),(2,.var (.aP .ptr) (pP 6)),(3,bI),(4,.var (.aP .func) (.func 220 .nil (.cons (pP 0) (.cons (pP 1) (.cons (pP 2) (.cons (pP 3) (.cons (pP 4) .nil))))))),(6,fB 7 8 100),(7,.map bS fC),(8,.map bJ .bool),(99,.row 49 48 fj),(100,.row 64 40 bJ)],[]⟩
def Lx(q0_:Zc)(q1_:Zb):aX:=aE G [.tmp 5] 220 [pP 0,pP 1,pP 2,pP 3,pP 4] [(0,.var (.slice 48 fj) (.own 5)),(1,bV bQ),(2,.var (.aP .ptr) (pP 6)),(3,bI),(4,.var (.aP .func) (.func 220 .nil (.cons (pP 0) (.cons (pP 1) (.cons (pP 2) (.cons (pP 3) (.cons (pP 4) .nil))))))),(5,.row 49 48 fj),(6,fB 7 8 9),(7,.map bS fC),(8,.map bJ .bool),(9,.row 64 40 bJ)] 117 VZ [0,1,2,3,4,6,7,8,99,100] (.bC (KN (jz q0_ q1_)))
theorem Ly(q0_:Zc)(q1_:Zb)(h0_:hS (uN q0_))(h1_:hS (pM q1_)):hS (Lx q0_ q1_):=
 cO ⟨[hE 2 [cB 0 [(0,6),(1,5),(2,7),(3,8),(4,9)] []],hE 12 [cB 1 [(0,6),(1,7),(2,8),(3,96)] [(93,77)]],hE 15 [cB 2 [(0,0),(1,1),(2,2),(3,3),(4,4),(5,84),(6,6),(7,7),(8,8),(9,77)] [(99,86),(100,93)]],(17,⟨[],[],[],none,[],[],[.oh 0 [] 94]⟩)],[(7,Tv),(9,Tv),(19,VX)],[],[(10,⟨VY,fun u5=>Int.toNat u5.2.1+1⟩)],[],[]⟩ (hq Lw (hq h0_ (hq h1_ hz))) aH Tryz.call220 Tryz.func220
def fe:Nat→Zc×Zb:=@Nat.rec (fun _=>(j7×cD×(Zg)×Int×Int×Bool×(Ze)×Unit×(Zk)×(Zh)×(Zl)×Unit→Option ZW)×(iA×Int×(ZG)×cD×(Zg)×Int×Int×Bool×(Ze)×Unit×(Zk)×(Zh)×(Zl)×Unit→Option (Bool×iA×Int×Zr))) (fun _=>none,fun _=>none) (fun _ ih=>(fun d=>jn ih.1 ih.2 d.1 d.2.1 d.2.2.1 d.2.2.2.1 d.2.2.2.2.1 d.2.2.2.2.2.1 d.2.2.2.2.2.2.1 d.2.2.2.2.2.2.2.1 d.2.2.2.2.2.2.2.2.1 d.2.2.2.2.2.2.2.2.2.1 d.2.2.2.2.2.2.2.2.2.2.1,fun d=>jz ih.1 ih.2 d.1 d.2.1 d.2.2.1 d.2.2.2.1 d.2.2.2.2.1 d.2.2.2.2.2.1 d.2.2.2.2.2.2.1 d.2.2.2.2.2.2.2.1 d.2.2.2.2.2.2.2.2.1 d.2.2.2.2.2.2.2.2.2.1 d.2.2.2.2.2.2.2.2.2.2.1 d.2.2.2.2.2.2.2.2.2.2.2.1 d.2.2.2.2.2.2.2.2.2.2.2.2.1))
theorem GS(n:Nat):hS (uN ((fe n).1))∧hS (pM ((fe n).2)):=by
 induction n with
 |zero=>exact⟨aX.Tq,aX.Tq⟩
 |succ n ih=>exact⟨Qg _ _ ih.1 ih.2,Ly _ _ ih.1 ih.2⟩
def lv(a0:j7)(a1:cD)(a2:Zg)(a3:Int)(a4:Int)(a5:Bool)(a6:Ze)(a7:Unit)(a8:Zk)(a9:Zh)(a10:Zl):Option ZW:=(fe gn).1 (a0,a1,a2,a3,a4,a5,a6,a7,a8,a9,a10,())
def Lz:aX:=aE G [.cell 4 88] 42 [pP 0,.val bS] [(0,fB 1 2 3),(1,.map bS fC),(2,.map bJ .bool),(3,.row 64 40 bJ)] 115 CK [0,1,2,93] (.bC (ET lv))
theorem LA:hS Lz:=(GS gn).1
end Go.Proofs.YtaghhonjcdokjaaGreatDoor
