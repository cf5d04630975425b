/- Made by program (dec6.py): walks -/
import Derived.Test.YtgdcjlldafmomaaGreatUF
noncomputable section
namespace Go.Proofs.YtgdcjlldafmomaaGreat
open Go.Ax
def lQ(q0_:Zc)(q1_:Zb)(a0:fQ)(a1:bL)(a2:Zd)(a3:Int)(a4:Int)(a5:Bool)(a6:Ze)(a7:Unit)(a8:Zj)(a9:Zi)(a10:Zh):Option ZR:=
 if(cp bE a0 a8)=true then(some (a1,a2,a3,a4,a5,a6,a7,a8,a9,bJ bE bU a0 a8,a10)) else(aE (U:=bL×Zd×Int×Int×Bool×Ze×Unit×Zj×Zi×fQ×Int×Int×Int×Int×Bool×uZ×Zh) (if(bJ (.int .i64) .bool a0.1 (bT a6))=true then(Option.bind (rp q0_ q1_ a0 a1 a2 a3 a4 a5 a6 a7 a8 a9 a10) fun⟨a,b,c,d,e,f,g,h,i,j,k⟩=>some (.brk (a,b,c,d,e,f,g,h,i,a0,0,0,0,0,false,j,k))) else(Option.bind (iF a0 a1 a2 a3 a4 a5 a6 a7 a8 a9 a10) fun⟨l,m,n,o,p,q,r,s,t,u,v⟩=>vS (.var gY (.cons (.val dF a1) (.cons (.val (.map bE (.slice 64 aR)) a2) (.cons (.val (.int .i64) a3) (.cons (.val (.int .i64) a4) (.cons (.val .bool a5) (.cons (.val (.map (.int .i64) .bool) a6) (.cons (.mp 1) (.cons (.mp 2) (.cons (.own 3) (.val .unit a7))))))))))) (.var gY (.cons (.val dF l) (.cons (.val (.map bE (.slice 64 aR)) m) (.cons (.val (.int .i64) n) (.cons (.val (.int .i64) o) (.cons (.val .bool p) (.cons (.val (.map (.int .i64) .bool) q) (.cons (.mp 1) (.cons (.mp 2) (.cons (.own 3) (.val .unit r))))))))))) (vS (.map bE bU a8) (.map bE bU s) (vS (.map aZ .bool a9) (.map aZ .bool t) (vS (.row 74 40 aZ a10) (.row 74 40 aZ u) (Option.bind (f33 v a0.1 a0.2.1 a0.2.2.1 a3 a4) fun⟨y,x,w⟩=>Option.bind (mV w) fun y5=>Option.bind (iA a10 y5 a1 a2 a3 a4 a5 a6 a7 a8 a9) fun⟨_,z,aa,ab,ac,ad,ae,af,ag,ah,ai⟩=>some (.brk (z,aa,ab,ac,ad,ae,af,ag,ah,a0,0,0,0,0,false,(x,0,([]:ZB),y,()),ai)))))))) fun⟨ak,al,am,an,ao,ap,aq,aj,av,ar,_,_,_,_,_,au,aw⟩=>if List.length aj+1≤aC then(some (ak,al,am,an,ao,ap,aq,bz bE ar au aj,av,au,aw)) else none)
def Uw:SS:=⟨75,115,[tP 0 0,tP 3 19,tP 4 20,tP 7 23],[(0,fB 1 2 92),(1,.map bE bU),(2,.map aZ .bool),(19,bV bE),(20,.var bU (.cons (.cons vI (.cons vI (.cons vI (.cons .aX .nil)))) (.cons vI (.cons .aX (.cons vB .nil))))),(23,bV bU),(92,.row 74 40 aZ)],[]⟩
def Ux:SS:=⟨75,115,[tP 4 20],[(0,fB 1 2 93),(1,.map bE bU),(2,.map aZ .bool),(20,bV bU),(93,.row 74 40 aZ)],[]⟩
def Ky(q0_:Zc)(q1_:Zb):aT:=aD G [.cell 4 135] 47 [pP 0,.val bE] [(0,fB 1 2 3),(1,.map bE bU),(2,.map aZ .bool),(3,.row 74 40 aZ)] 115 Ux [0,1,2,93] (.bx (G8 (lQ q0_ q1_)))
theorem Kz(q0_:Zc)(q1_:Zb)(h0_:hS (rj q0_))(h1_:hS (mL q1_)):hS (Ky q0_ q1_):=
 cO ⟨[hE 6 [cB 0 [(0,0),(1,1),(2,2),(3,3)] [(65,47)]],hE 7 [⟨[1],[(0,0),(1,1),(2,2),(3,3)],[],[],[0,1,2,3]⟩,cA 2],hE 9 [⟨[3],[],[(18,80),(19,91)],[(0,0)],[]⟩,cB 4 [(0,3),(1,91),(2,80),(3,0),(4,1),(5,2)] [(32,81)]]],[(10,Uw)],[],[],[],[]⟩ (hq (Kd q0_ q1_ h0_ h1_) (hq Kf (hq NN (hq IZ (hq Hx hz))))) aF Tryz.call47 Tryz.func47
def f220(a0:cT)(a1:lN):Option (Bool×gI):=
 Option.bind (f78 a0 a1.2.2.1 a1.2.2.2.1) fun⟨a,b⟩=>Option.bind (α:=Bool) (if(!a)=true then(some true) else(Option.bind (f79 a0 b) fun y2=>if(!y2)=true then(some true) else(if(decide ((0:Int)≤b.2.2.2.2.1))=true then(if 0≤b.2.2.2.2.1 then(if b.2.2.2.2.1<(List.length a0.1.2.1:Int) then(Option.bind (f85 a0 (nth aO a0.1.2.1 b.2.2.2.2.1)) fun y3=>some (!y3)) else none) else none) else(some false)))) fun v4=>if v4=true then(some (false,b)) else(some (true,b))
def Uy:SS:=⟨42,82,[tP 4 20,(5,vB)],[(20,bV jP)],[]⟩
def Uz:aT:=aD G [.cell 4 96,.tmp 5] 220 [.val cM,.val dz] [] 82 Uy [] (.bx (u2 f220))
theorem UA:hS Uz:=
 cO (hR [hA 1 0,hD 2 39 [cA 1,cA 2]]) (hq Ly (hq PY (hq VG hz))) aF Tryz.call220 Tryz.func220
def f217(a0:cK)(a1:lN)(a2:Int):Option ZY:=
 Option.bind (f220 (a0,()) a1) fun⟨a,b⟩=>aE (U:=Int×cK×gI) (Option.bind (α:=Bool) (if(!a)=true then(some true) else(if(decide (a2<(0:Int)))=true then(some true) else(some (decide ((1048576:Int)<a2))))) fun v3=>if v3=true then(bP (some (0,120))) else(some (.brk (a2,a0,b)))) fun⟨e,d,c⟩=>if(decide ((0:Int)≤c.2.2.2.2.1))=true then(if 0≤c.2.2.2.2.1 then(if c.2.2.2.2.1<(List.length d.2.1:Int) then(some (aV (e*(nth aO d.2.1 c.2.2.2.2.1).2.2.2.2.1),0)) else none) else none) else(some (e,0))
def UB:SS:=⟨42,82,[tI 2,tP 3 19,tP 9 25],[(19,bV fe),(25,bV jP)],[]⟩
def UC:SS:=⟨42,82,[tI 6,tI 7],[],[]⟩
def UD:aT:=aD G [.tmp 6,.tmp 7] 217 [.val fe,.val dz,vI] [] 82 UC [] (.bx (u3 f217))
theorem UE:hS UD:=
 cO ⟨[hA 2 0,hD 3 28 []],[(5,UB)],[],[],[],[]⟩ (hq UA hz) aF Tryz.call217 Tryz.func217
def mO(a0:fm)(a1:cF)(a2:bL)(a3:Zd)(a4:Int)(a5:Int)(a6:Bool)(a7:Ze)(a8:Unit)(a9:ZB)(a10:Zj)(a11:Zi)(a12:Zh):Option (Int×cF×ZW):=
 if 0≤a0.2.2.1 then(if a0.2.2.1<(List.length a1.2.2.1:Int) then(Option.bind (f175 a0 a9) fun y1=>Option.bind (f217 a2.1.1 ([],[],(nth aK a1.2.2.1 a0.2.2.1).2.2.1,a0.2.2.2.1,()) y1) fun⟨a,_⟩=>some (a,a1,a2,a3,a4,a5,a6,a7,a8,a9,a10,a11,a12)) else none) else none
def UF:SS:=⟨34,74,[tI 5],[(0,bV bu),(1,.var (.aN .ptr) (pP 3)),(2,.var (.slice 48 eW) (.own 4)),(3,fB 5 6 7),(4,.row 53 48 eW),(5,.map bE bU),(6,.map aZ .bool),(7,.row 74 40 aZ)],[]⟩
def HU:aT:=aD G [.tmp 5] 216 [.val aO,pP 0,pP 1,pP 2] [(0,bV bu),(1,.var (.aN .ptr) (pP 3)),(2,.var (.slice 48 eW) (.own 4)),(3,fB 5 6 7),(4,.row 53 48 eW),(5,.map bE bU),(6,.map aZ .bool),(7,.row 74 40 aZ)] 74 UF [0,1,2,3,4,5,6,7] (.bx (Ew mO))
theorem HV:hS HU:=
 cO (hR [hE 2 [cA 0,cA 1]]) (hq Kb (hq UE hz)) aF Tryz.call216 Tryz.func216
def Bi(a0:Int)(a1:Int):Zk:=
 some (!decide (a0=a1))
def UG:SS:=⟨6,46,[(2,vB)],[],[]⟩
def HX:aT:=aD G [.tmp 2] 224 [.bD (.int .i64),.bD (.int .i64)] [] 46 UG [] (.bx (u2 Bi))
theorem HY:hS HX:=
 cO (hR []) hz aF Tryz.call224 Tryz.func224
def Bj(a0:Int)(a1:Int):Zk:=
 some (decide (a0≤a1))
def UH:SS:=⟨6,46,[(2,vB)],[],[]⟩
def HZ:aT:=aD G [.tmp 2] 223 [.bD (.int .i64),.bD (.int .i64)] [] 46 UH [] (.bx (u2 Bj))
theorem H3:hS HZ:=
 cO (hR []) hz aF Tryz.call223 Tryz.func223
def Bk(a0:Int)(a1:Int):Zk:=
 some (decide (a0<a1))
def UI:SS:=⟨6,46,[(2,vB)],[],[]⟩
def H4:aT:=aD G [.tmp 2] 222 [.bD (.int .i64),.bD (.int .i64)] [] 46 UI [] (.bx (u2 Bk))
theorem H5:hS H4:=
 cO (hR []) hz aF Tryz.call222 Tryz.func222
def Bl(a0:Int)(a1:Int):Zk:=
 some (decide (a0=a1))
def UJ:SS:=⟨6,46,[(2,vB)],[],[]⟩
def H6:aT:=aD G [.tmp 2] 221 [.bD (.int .i64),.bD (.int .i64)] [] 46 UJ [] (.bx (u2 Bl))
theorem H7:hS H6:=
 cO (hR []) hz aF Tryz.call221 Tryz.func221
def f218(a0:Int)(a1:Int)(a2:Int):Zk:=
 if aU (.int .i64) a0 (1:Int)=true then(Option.bind (Bl a1 a2) fun y4=>some y4) else(if aU (.int .i64) a0 (2:Int)=true then(Option.bind (Bk a1 a2) fun y3=>some y3) else(if aU (.int .i64) a0 (3:Int)=true then(Option.bind (Bj a1 a2) fun y2=>some y2) else(if aU (.int .i64) a0 (4:Int)=true then(Option.bind (Bi a1 a2) fun y1=>some y1) else(some false))))
def UK:SS:=⟨26,66,[(6,vB)],[],[]⟩
def UL:aT:=aD G [.tmp 6] 218 [vI,vI,vI] [] 66 UK [] (.bx (u3 f218))
theorem UM:hS UL:=
 cO (hR [hE 3 [⟨[0,1,2,3],[],[],[],[]⟩]]) (hq HY (hq H3 (hq H5 (hq H7 hz)))) aF Tryz.call218 Tryz.func218
def ru:Nat→Zx×Int×Int×bL×Zd×Int×Int×Bool×Ze×Unit×ZB×Zj×Zi×Zh×cF→Option (cz ZW (Bool×ZW)):=aH fun Z9 ⟨aw,av,au,az,a0,a1,a2,a3,a4,a5,ax,a6,a7,a8,ay⟩=>if(decide (au<av))=true then(if 0≤au then(if au<(List.length aw:Int) then(Option.bind (f175 (nth aM aw au).2.1 ax) fun y4=>Option.bind (f175 (nth aM aw au).2.2.1 ax) fun y5=>aE (U:=Int×Int×Zx×Int×Int×bL×Zd×Int×Int×Bool×Ze×Unit×ZB×Zj×Zi×Zh×cF×mJ) (Option.bind (α:=Bool) (if(!decide ((nth aM aw au).2.1.2.2.1=(-1:Int)))=true then(some (!decide ((nth aM aw au).2.2.1.2.2.1=(-1:Int)))) else(some false)) fun v7=>if v7=true then(Option.bind (mO (nth aM aw au).2.1 ay az a0 a1 a2 a3 a4 a5 ax a6 a7 a8) fun⟨m,a,b,c,d,e,f,g,h,i,j,k,l⟩=>Option.bind (mO (nth aM aw au).2.2.1 a b c d e f g h i j k l) fun⟨n,z,o,p,q,r,s,t,u,v,w,x,y⟩=>some (.brk (m,n,aw,av,au,o,p,q,r,s,t,u,v,w,x,y,z,nth aM aw au))) else(some (.brk (y4,y5,aw,av,au,az,a0,a1,a2,a3,a4,a5,ax,a6,a7,a8,ay,nth aM aw au)))) fun⟨ab,ac,ao,ap,aq,ad,ae,af,ag,ah,ai,aj,ak,al,am,an,ar,aa⟩=>Option.bind (f218 aa.1 ab ac) fun y10=>if(!y10)=true then(bP (some (false,ad,ae,af,ag,ah,ai,aj,ak,al,am,an))) else(Z9 (ao,ap,aV (aq+1),ad,ae,af,ag,ah,ai,aj,ak,al,am,an,ar))) else none) else none) else(some (.brk (az,a0,a1,a2,a3,a4,a5,ax,a6,a7,a8)))
def pJ(a0:cF)(a1:bL)(a2:Zd)(a3:Int)(a4:Int)(a5:Bool)(a6:Ze)(a7:Unit)(a8:ZB)(a9:Zj)(a10:Zi)(a11:Zh):Option (Bool×ZW):=
 aE (U:=ZW) (ru (Int.toNat (List.length a0.2.2.2.1:Int)+1) (a0.2.2.2.1,(List.length a0.2.2.2.1:Int),0,a1,a2,a3,a4,a5,a6,a7,a8,a9,a10,a11,a0)) fun⟨a,b,c,d,e,f,g,h,i,j,k⟩=>some (true,a,b,c,d,e,f,g,h,i,j,k)
def UN:SS:=⟨53,93,[tP 5 21,(7,.func 216 .nil (.cons (pP 20) (.cons (pP 19) (.cons (pP 21) .nil)))),tP 9 25,tI 10,tI 11,(14,.val (.slice 120 aM)),tI 15,tI 16],[(0,fB 2 3 4),(1,.row 53 48 eW),(2,.map bE bU),(3,.map aZ .bool),(4,.row 74 40 aZ),(19,.var (.aN .ptr) (pP 0)),(20,bV bu),(21,.var (.slice 48 eW) (.own 1)),(25,bV aM)],[]⟩
def UP:SS:=⟨53,93,[],[(0,fB 2 3 4),(1,.row 53 48 eW),(2,.map bE bU),(3,.map aZ .bool),(4,.row 74 40 aZ)],[]⟩
def UQ:SS:=⟨53,93,[tP 5 21,(7,.func 216 .nil (.cons (pP 20) (.cons (pP 19) (.cons (pP 21) .nil)))),(14,.val (.slice 120 aM)),tI 15,tI 16],[(0,fB 2 3 4),(1,.row 53 48 eW),(2,.map bE bU),(3,.map aZ .bool),(4,.row 74 40 aZ),(19,.var (.aN .ptr) (pP 0)),(20,bV bu),(21,.var (.slice 48 eW) (.own 1))],[]⟩
def UR:SS:=⟨53,93,[(6,vB)],[(0,fB 2 3 4),(1,.row 53 48 eW),(2,.map bE bU),(3,.map aZ .bool),(4,.row 74 40 aZ)],[]⟩
def H8:aT:=aD G [.tmp 6] 174 [pP 0,.val bu,.own 1] [(0,fB 2 3 4),(1,.row 53 48 eW),(2,.map bE bU),(3,.map aZ .bool),(4,.row 74 40 aZ)] 93 UR [0,1,2,3,4] (.bx (IJ pJ))
theorem H9:hS H8:=
 cO ⟨[hE 5 [cA 0,cA 0],hD 6 37 [],hE 7 [cB 1 [(0,20),(1,19),(2,21),(3,0),(4,1),(5,2),(6,3),(7,4)] [],cB 1 [(0,20),(1,19),(2,21),(3,0),(4,1),(5,2),(6,3),(7,4)] []],hA 8 2],[(8,UN),(11,UP)],[],[(3,⟨UQ,fun u2=>Int.toNat u2.2.1+1⟩)],[],[]⟩ (hq Kb (hq HV (hq UM hz))) aF Tryz.call174 Tryz.func174
def iC(q0_:Zc)(q1_:Zb):Nat→Int×Int×Int×cF×Int×bL×Zd×Int×Int×Bool×Ze×Unit×Zj×Zi×rV×ZB×Zh→Option (cz (cF×Int×ZL) (Bool×cF×Int×ZL)):=aH fun rec6 ⟨ac,aa,z,ao,ap,ad,ae,af,ag,ah,ai,aj,ak,al,ab,an,am⟩=>if(decide (z<aa))=true then(Option.bind (q0_ ((ab.2.2.1,ac,z,()),ad,ae,af,ag,ah,ai,aj,ak,al,am,())) fun⟨b,c,d,e,f,g,h,i,j,a,k⟩=>if a.2.2.2.1=true then(if(List.length an+List.length [a.1])*48≤aC then(Option.bind (q1_ (ao,ap,an++[a.1],b,c,d,e,f,g,h,i,j,k,())) fun⟨l,m,n,o,p,q,r,s,t,u,v,w,x,y⟩=>if l=true then(bP (some (true,m,n,o,p,q,r,s,t,u,v,w,x,y))) else(if 0≤(aV ((List.length x:Int) -(1:Int))) then(if(aV ((List.length x:Int) -(1:Int)))≤(List.length x:Int) then(rec6 (ac,aa,aV (z+1),m,n,o,p,q,r,s,t,u,v,w,ab,List.take ((Int.toNat (aV ((List.length x:Int) -(1:Int)))) -0) x,y)) else none) else none)) else none) else(rec6 (ac,aa,aV (z+1),ao,ap,b,c,d,e,f,g,h,i,j,ab,an,k))) else(some (.brk (ao,ap,ad,ae,af,ag,ah,ai,aj,ak,al,an,am)))
def mP(q0_:Zc)(q1_:Zb)(a0:cF)(a1:Int)(a2:ZB)(a3:bL)(a4:Zd)(a5:Int)(a6:Int)(a7:Bool)(a8:Ze)(a9:Unit)(a10:Zj)(a11:Zi)(a12:Zh):Option (Bool×cF×Int×ZL):=
 if(decide ((List.length a2:Int)=(List.length a0.2.2.1:Int)))=true then(Option.bind (pJ a0 a3 a4 a5 a6 a7 a8 a9 a2 a10 a11 a12) fun⟨a,b,c,d,e,f,g,h,k,i,j,l⟩=>some (a,a0,a1,b,c,d,e,f,g,h,i,j,k,l)) else(if 0≤(List.length a2:Int) then(if(List.length a2:Int)<(List.length a0.2.2.1:Int) then(aE (U:=Int×Int×cF×Int×ZB×bL×Zd×Int×Int×Bool×Ze×Unit×Zj×Zi×Zh×rV) (if(!decide ((nth aK a0.2.2.1 (List.length a2:Int)).2.2.2.1.2.2.1=(-1:Int)))=true then(if 0≤(nth aK a0.2.2.1 (List.length a2:Int)).2.2.2.1.2.2.1 then(if(nth aK a0.2.2.1 (List.length a2:Int)).2.2.2.1.2.2.1<(List.length a2:Int) then(if 0≤(nth aK a0.2.2.1 (List.length a2:Int)).2.2.2.1.2.2.2.1 then(if(nth aK a0.2.2.1 (List.length a2:Int)).2.2.2.1.2.2.2.1<(List.length (nth eW a2 (nth aK a0.2.2.1 (List.length a2:Int)).2.2.2.1.2.2.1).2.2.2.1:Int) then(some (.brk (nth (.int .i64) (nth eW a2 (nth aK a0.2.2.1 (List.length a2:Int)).2.2.2.1.2.2.1).2.2.2.1 (nth aK a0.2.2.1 (List.length a2:Int)).2.2.2.1.2.2.2.1,4,a0,a1,a2,a3,a4,a5,a6,a7,a8,a9,a10,a11,a12,nth aK a0.2.2.1 (List.length a2:Int)))) else none) else none) else none) else none) else(some (.brk (a1,4,a0,a1,a2,a3,a4,a5,a6,a7,a8,a9,a10,a11,a12,nth aK a0.2.2.1 (List.length a2:Int))))) fun⟨o,ab,p,q,r,s,t,u,v,w,n,x,y,z,aa,m⟩=>aE (U:=Int×Int×cF×Int×ZB×bL×Zd×Int×Int×Bool×Ze×Unit×Zj×Zi×Zh×rV) (if(bJ (.int .i64) .bool m.2.2.1 (bT n))=true then(some (.brk (o,1,p,q,r,s,t,u,v,w,n,x,y,z,aa,m))) else(some (.brk (o,ab,p,q,r,s,t,u,v,w,n,x,y,z,aa,m)))) fun⟨ad,ac,ae,af,aq,ag,ah,ai,aj,ak,al,am,an,ao,ar,ap⟩=>aE (U:=cF×Int×ZL) (iC q0_ q1_ (Int.toNat ac+1) (ad,ac,0,ae,af,ag,ah,ai,aj,ak,al,am,an,ao,ap,aq,ar)) fun⟨au,av,aw,ax,ay,az,ba,bb,bc,bd,be,bf,bg⟩=>some (false,au,av,aw,ax,ay,az,ba,bb,bc,bd,be,bf,bg)) else none) else none)
def M8:SS:=⟨77,117,[tP 0 0,tP 2 2,tP 4 4,tP 6 22,tI 7,tI 8],[(0,.var (.slice 48 eW) (.own 5)),(1,bV bu),(2,.var (.aN .ptr) (pP 6)),(3,bI),(4,.var (.aN .func) (.func 173 .nil (.cons (pP 0) (.cons (pP 1) (.cons (pP 2) (.cons (pP 3) (.cons (pP 4) .nil))))))),(5,.row 53 48 eW),(6,fB 7 8 9),(7,.map bE bU),(8,.map aZ .bool),(9,.row 74 40 aZ),(22,bV aK)],[]⟩
def US:SS:=⟨77,117,[],[(0,.var (.slice 48 eW) (.own 97)),(1,bV bu),(2,.var (.aN .ptr) (pP 6)),(3,bI),(4,.var (.aN .func) (.func 173 .nil (.cons (pP 0) (.cons (pP 1) (.cons (pP 2) (.cons (pP 3) (.cons (pP 4) .nil))))))),(6,fB 7 8 98),(7,.map bE bU),(8,.map aZ .bool),(97,.row 53 48 eW),(98,.row 74 40 aZ)],[]⟩
def UT:SS:=⟨77,117,[tP 0 0,tP 2 2,tP 4 4,tP 6 22,tI 7,tI 51,tI 52],[(0,.var (.slice 48 eW) (.own 95)),(1,bV bu),(2,.var (.aN .ptr) (pP 6)),(3,bI),(4,.var (.aN .func) (.func 173 .nil (.cons (pP 0) (.cons (pP 1) (.cons (pP 2) (.cons (pP 3) (.cons (pP 4) .nil))))))),(6,fB 7 8 96),(7,.map bE bU),(8,.map aZ .bool),(22,bV aK),(95,.row 53 48 eW),(96,.row 74 40 aZ)],[]⟩
def UU:SS:=⟨77,117,[(5,vB)],[(0,.var (.slice 48 eW) (.own 99)),(1,bV bu),(2,.var (.aN .ptr) (pP 6)),(3,bI),(4,.var (.aN .func) (.func 173 .nil (.cons (pP 0) (.cons (pP 1) (.cons (pP 2) (.cons (pP 3) (.cons (pP 4) .nil))))))),(6,fB 7 8 100),(7,.map bE bU),(8,.map aZ .bool),(99,.row 53 48 eW),(100,.row 74 40 aZ)],[]⟩
def Ia(q0_:Zc)(q1_:Zb):aT:=aD G [.tmp 5] 173 [pP 0,pP 1,pP 2,pP 3,pP 4] [(0,.var (.slice 48 eW) (.own 5)),(1,bV bu),(2,.var (.aN .ptr) (pP 6)),(3,bI),(4,.var (.aN .func) (.func 173 .nil (.cons (pP 0) (.cons (pP 1) (.cons (pP 2) (.cons (pP 3) (.cons (pP 4) .nil))))))),(5,.row 53 48 eW),(6,fB 7 8 9),(7,.map bE bU),(8,.map aZ .bool),(9,.row 74 40 aZ)] 117 UU [0,1,2,3,4,6,7,8,99,100] (.bx (Ew (mP q0_ q1_)))
theorem Ib(q0_:Zc)(q1_:Zb)(h0_:hS (rj q0_))(h1_:hS (mL q1_)):hS (Ia q0_ q1_):=
 cO ⟨[hE 2 [cB 0 [(0,6),(1,5),(2,7),(3,8),(4,9)] []],hE 12 [cB 1 [(0,6),(1,7),(2,8),(3,96)] [(93,77)]],hE 15 [cB 2 [(0,0),(1,1),(2,2),(3,3),(4,4),(5,84),(6,6),(7,7),(8,8),(9,77)] [(99,86),(100,93)]],(17,⟨[],[],[],none,[],[],[.lf 0 [] 94]⟩)],[(7,M8),(9,M8),(19,US)],[],[(10,⟨UT,fun u5=>Int.toNat u5.2.1+1⟩)],[],[]⟩ (hq H9 (hq h0_ (hq h1_ hz))) aF Tryz.call173 Tryz.func173
def ia:Nat→Zc×Zb:=@Nat.rec (fun _=>(fQ×bL×(Zd)×Int×Int×Bool×(Ze)×Unit×(Zj)×(Zi)×(Zh)×Unit→Option ZR)×(cF×Int×(ZB)×bL×(Zd)×Int×Int×Bool×(Ze)×Unit×(Zj)×(Zi)×(Zh)×Unit→Option (Bool×cF×Int×ZL))) (fun _=>none,fun _=>none) (fun _ ih=>(fun d=>lQ ih.1 ih.2 d.1 d.2.1 d.2.2.1 d.2.2.2.1 d.2.2.2.2.1 d.2.2.2.2.2.1 d.2.2.2.2.2.2.1 d.2.2.2.2.2.2.2.1 d.2.2.2.2.2.2.2.2.1 d.2.2.2.2.2.2.2.2.2.1 d.2.2.2.2.2.2.2.2.2.2.1,fun d=>mP ih.1 ih.2 d.1 d.2.1 d.2.2.1 d.2.2.2.1 d.2.2.2.2.1 d.2.2.2.2.2.1 d.2.2.2.2.2.2.1 d.2.2.2.2.2.2.2.1 d.2.2.2.2.2.2.2.2.1 d.2.2.2.2.2.2.2.2.2.1 d.2.2.2.2.2.2.2.2.2.2.1 d.2.2.2.2.2.2.2.2.2.2.2.1 d.2.2.2.2.2.2.2.2.2.2.2.2.1))
theorem B3(n:Nat):hS (rj ((ia n).1))∧hS (mL ((ia n).2)):=by
 induction n with
 |zero=>exact⟨aT.Lt,aT.Lt⟩
 |succ n ih=>exact⟨Kz _ _ ih.1 ih.2,Ib _ _ ih.1 ih.2⟩
def kU(a0:fQ)(a1:bL)(a2:Zd)(a3:Int)(a4:Int)(a5:Bool)(a6:Ze)(a7:Unit)(a8:Zj)(a9:Zi)(a10:Zh):Option ZR:=(ia ff).1 (a0,a1,a2,a3,a4,a5,a6,a7,a8,a9,a10,())
def Ic:aT:=aD G [.cell 4 135] 47 [pP 0,.val bE] [(0,fB 1 2 3),(1,.map bE bU),(2,.map aZ .bool),(3,.row 74 40 aZ)] 115 zj [0,1,2,93] (.bx (G8 kU))
theorem Ie:hS Ic:=(B3 ff).1
end Go.Proofs.YtgdcjlldafmomaaGreat
