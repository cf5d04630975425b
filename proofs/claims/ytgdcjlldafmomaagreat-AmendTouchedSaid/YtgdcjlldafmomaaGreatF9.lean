/- part -/
import Derived.Test.YtgdcjlldafmomaaGreatUF
noncomputable section
namespace Go.Proofs.YtgdcjlldafmomaaGreat
open Go.Ax
def qm(q0_:Zc)(q1_:Zb)(a0:gX)(a1:bT)(a2:Zd)(a3:Int)(a4:Int)(a5:Bool)(a6:Zf)(a7:Unit)(a8:Zj)(a9:Zh)(a10:Zi):Option ZP:=
 if(ck bx a0 a8)=true then(some (a1,a2,a3,a4,a5,a6,a7,a8,a9,bw bx cj a0 a8,a10)) else(aG (U:=bT×Zd×Int×Int×Bool×Zf×Unit×Zj×Zh×gX×Int×Int×Int×Int×Bool×uN×Zi) (if(bw (.int .i64) .bool a0.1 (bM a6))=true then(Option.bind (ua q0_ q1_ a0 a1 a2 a3 a4 a5 a6 a7 a8 a9 a10) fun⟨a,b,c,d,e,f,g,h,i,j,k⟩=>some (.brk (a,b,c,d,e,f,g,h,i,a0,0,0,0,0,false,j,k))) else(Option.bind (iu a0 a1 a2 a3 a4 a5 a6 a7 a8 a9 a10) fun⟨l,m,n,o,p,q,r,s,t,u,v⟩=>zx (.var jz (.cons (.val fb a1) (.cons (.val (.map bx (.slice 64 aO)) a2) (.cons (.val (.int .i64) a3) (.cons (.val (.int .i64) a4) (.cons (.val .bool a5) (.cons (.val (.map (.int .i64) .bool) a6) (.cons (.mp 1) (.cons (.mp 2) (.cons (.own 3) (.val .unit a7))))))))))) (.var jz (.cons (.val fb l) (.cons (.val (.map bx (.slice 64 aO)) m) (.cons (.val (.int .i64) n) (.cons (.val (.int .i64) o) (.cons (.val .bool p) (.cons (.val (.map (.int .i64) .bool) q) (.cons (.mp 1) (.cons (.mp 2) (.cons (.own 3) (.val .unit r))))))))))) (zx (.map bx cj a8) (.map bx cj s) (zx (.map bC .bool a9) (.map bC .bool t) (zx (.row 74 40 bC a10) (.row 74 40 bC u) (Option.bind (f33 v a0.1 a0.2.1 a0.2.2.1 a3 a4) fun⟨y,x,w⟩=>Option.bind (qq w) fun y5=>Option.bind (jb a10 y5 a1 a2 a3 a4 a5 a6 a7 a8 a9) fun⟨_,z,aa,ab,ac,ad,ae,af,ag,ah,ai⟩=>some (.brk (z,aa,ab,ac,ad,ae,af,ag,ah,a0,0,0,0,0,false,(x,0,([]:ZB),y,()),ai)))))))) fun⟨ak,al,am,an,ao,ap,aq,aj,av,ar,_,_,_,_,_,au,aw⟩=>if List.length aj+1≤aE then(some (ak,al,am,an,ao,ap,aq,bB bx ar au aj,av,au,aw)) else none)
def Wg:SS:=⟨75,115,[tP 0 0,tP 3 19,tP 4 20,tP 7 23],[(0,fB 1 2 92),(1,.map bx cj),(2,.map bC .bool),(19,bV bx),(20,.var cj (.cons (.cons vI (.cons vI (.cons vI (.cons .bA .nil)))) (.cons vI (.cons .bA (.cons vB .nil))))),(23,bV cj),(92,.row 74 40 bC)],[]⟩
def Wh:SS:=⟨75,115,[tP 4 20],[(0,fB 1 2 93),(1,.map bx cj),(2,.map bC .bool),(20,bV cj),(93,.row 74 40 bC)],[]⟩
def MQ(q0_:Zc)(q1_:Zb):aW:=aF G [.cell 4 135] 47 [pP 0,.val bx] [(0,fB 1 2 3),(1,.map bx cj),(2,.map bC .bool),(3,.row 74 40 bC)] 115 Wh [0,1,2,93] (.bE (IV (qm q0_ q1_)))
theorem MR(q0_:Zc)(q1_:Zb)(h0_:hS (tZ q0_))(h1_:hS (pn q1_)):hS (MQ q0_ q1_):=
 cO ⟨[hE 6 [cB 0 [(0,0),(1,1),(2,2),(3,3)] [(65,47)]],hE 7 [⟨[1],[(0,0),(1,1),(2,2),(3,3)],[],[],[0,1,2,3]⟩,cA 2],hE 9 [⟨[3],[],[(18,80),(19,91)],[(0,0)],[]⟩,cB 4 [(0,3),(1,91),(2,80),(3,0),(4,1),(5,2)] [(32,81)]]],[(10,Wg)],[],[],[],[]⟩ (hq (Ns q0_ q1_ h0_ h1_) (hq Nu (hq TR (hq Nw (hq Jg hz))))) aI Tryz.call47 Tryz.func47
def f220(a0:dt)(a1:nL):Option (Bool×jg):=
 Option.bind (f78 a0 a1.2.2.1 a1.2.2.2.1) fun⟨a,b⟩=>Option.bind (α:=Bool) (if(!a)=true then(some true) else(Option.bind (f79 a0 b) fun y2=>if(!y2)=true then(some true) else(if(decide ((0:Int)≤b.2.2.2.2.1))=true then(if 0≤b.2.2.2.2.1 then(if b.2.2.2.2.1<(List.length a0.1.2.1:Int) then(Option.bind (f85 a0 (nth aS a0.1.2.1 b.2.2.2.2.1)) fun y3=>some (!y3)) else none) else none) else(some false)))) fun v4=>if v4=true then(some (false,b)) else(some (true,b))
def Wi:SS:=⟨42,82,[tP 4 20,(5,vB)],[(20,bV lE)],[]⟩
def Wj:aW:=aF G [.cell 4 96,.tmp 5] 220 [.val de,.val eA] [] 82 Wi [] (.bE (u2 f220))
theorem Wl:hS Wj:=
 cO (hR [hA 1 0,hD 2 39 [cA 1,cA 2]]) (hq Pq (hq TP (hq Yx hz))) aI Tryz.call220 Tryz.func220
def f217(a0:cz)(a1:nL)(a2:Int):Option ZX:=
 Option.bind (f220 (a0,()) a1) fun⟨a,b⟩=>aG (U:=Int×cz×jg) (Option.bind (α:=Bool) (if(!a)=true then(some true) else(if(decide (a2<(0:Int)))=true then(some true) else(some (decide ((1048576:Int)<a2))))) fun v3=>if v3=true then(bZ (some (0,120))) else(some (.brk (a2,a0,b)))) fun⟨e,d,c⟩=>if(decide ((0:Int)≤c.2.2.2.2.1))=true then(if 0≤c.2.2.2.2.1 then(if c.2.2.2.2.1<(List.length d.2.1:Int) then(some (aZ (e*(nth aS d.2.1 c.2.2.2.2.1).2.2.2.2.1),0)) else none) else none) else(some (e,0))
def Wm:SS:=⟨42,82,[tI 2,tP 3 19,tP 9 25],[(19,bV gE),(25,bV lE)],[]⟩
def Wn:SS:=⟨42,82,[tI 6,tI 7],[],[]⟩
def Wo:aW:=aF G [.tmp 6,.tmp 7] 217 [.val gE,.val eA,vI] [] 82 Wn [] (.bE (u3 f217))
theorem Wp:hS Wo:=
 cO ⟨[hA 2 0,hD 3 28 []],[(5,Wm)],[],[],[],[]⟩ (hq Wl hz) aI Tryz.call217 Tryz.func217
def pk(a0:gO)(a1:dq)(a2:bT)(a3:Zd)(a4:Int)(a5:Int)(a6:Bool)(a7:Zf)(a8:Unit)(a9:ZB)(a10:Zj)(a11:Zh)(a12:Zi):Option (Int×dq×ZV):=
 if 0≤a0.2.2.1 then(if a0.2.2.1<(List.length a1.2.2.1:Int) then(Option.bind (f175 a0 a9) fun y1=>Option.bind (f217 a2.1.1 ([],[],(nth aL a1.2.2.1 a0.2.2.1).2.2.1,a0.2.2.2.1,()) y1) fun⟨a,_⟩=>some (a,a1,a2,a3,a4,a5,a6,a7,a8,a9,a10,a11,a12)) else none) else none
def Wq:SS:=⟨34,74,[tI 5],[(0,bV bz),(1,.var (.aR .ptr) (pP 3)),(2,.var (.slice 48 fL) (.own 4)),(3,fB 5 6 7),(4,.row 53 48 fL),(5,.map bx cj),(6,.map bC .bool),(7,.row 74 40 bC)],[]⟩
def Kl:aW:=aF G [.tmp 5] 216 [.val aS,pP 0,pP 1,pP 2] [(0,bV bz),(1,.var (.aR .ptr) (pP 3)),(2,.var (.slice 48 fL) (.own 4)),(3,fB 5 6 7),(4,.row 53 48 fL),(5,.map bx cj),(6,.map bC .bool),(7,.row 74 40 bC)] 74 Wq [0,1,2,3,4,5,6,7] (.bE (Hf pk))
theorem Km:hS Kl:=
 cO (hR [hE 2 [cA 0,cA 1]]) (hq Nq (hq Wp hz)) aI Tryz.call216 Tryz.func216
def DG(a0:Int)(a1:Int):Zl:=
 some (!decide (a0=a1))
def Wr:SS:=⟨6,46,[(2,vB)],[],[]⟩
def Kn:aW:=aF G [.tmp 2] 224 [.bL (.int .i64),.bL (.int .i64)] [] 46 Wr [] (.bE (u2 DG))
theorem Ko:hS Kn:=
 cO (hR []) hz aI Tryz.call224 Tryz.func224
def DH(a0:Int)(a1:Int):Zl:=
 some (decide (a0≤a1))
def Ws:SS:=⟨6,46,[(2,vB)],[],[]⟩
def Kp:aW:=aF G [.tmp 2] 223 [.bL (.int .i64),.bL (.int .i64)] [] 46 Ws [] (.bE (u2 DH))
theorem Kq:hS Kp:=
 cO (hR []) hz aI Tryz.call223 Tryz.func223
def DI(a0:Int)(a1:Int):Zl:=
 some (decide (a0<a1))
def Wt:SS:=⟨6,46,[(2,vB)],[],[]⟩
def Kr:aW:=aF G [.tmp 2] 222 [.bL (.int .i64),.bL (.int .i64)] [] 46 Wt [] (.bE (u2 DI))
theorem Ks:hS Kr:=
 cO (hR []) hz aI Tryz.call222 Tryz.func222
def DJ(a0:Int)(a1:Int):Zl:=
 some (decide (a0=a1))
def Wu:SS:=⟨6,46,[(2,vB)],[],[]⟩
def Kt:aW:=aF G [.tmp 2] 221 [.bL (.int .i64),.bL (.int .i64)] [] 46 Wu [] (.bE (u2 DJ))
theorem Ku:hS Kt:=
 cO (hR []) hz aI Tryz.call221 Tryz.func221
def f218(a0:Int)(a1:Int)(a2:Int):Zl:=
 if aY (.int .i64) a0 (1:Int)=true then(Option.bind (DJ a1 a2) fun y4=>some y4) else(if aY (.int .i64) a0 (2:Int)=true then(Option.bind (DI a1 a2) fun y3=>some y3) else(if aY (.int .i64) a0 (3:Int)=true then(Option.bind (DH a1 a2) fun y2=>some y2) else(if aY (.int .i64) a0 (4:Int)=true then(Option.bind (DG a1 a2) fun y1=>some y1) else(some false))))
def Wv:SS:=⟨26,66,[(6,vB)],[],[]⟩
def Ww:aW:=aF G [.tmp 6] 218 [vI,vI,vI] [] 66 Wv [] (.bE (u3 f218))
theorem Wx:hS Ww:=
 cO (hR [hE 3 [⟨[0,1,2,3],[],[],[],[]⟩]]) (hq Ko (hq Kq (hq Ks (hq Ku hz)))) aI Tryz.call218 Tryz.func218
def gr:Nat→Zx×Int×Int×bT×Zd×Int×Int×Bool×Zf×Unit×ZB×Zj×Zh×Zi×dq→Option (cQ ZV (Bool×ZV)):=aK fun acK ⟨aw,av,au,az,a0,a1,a2,a3,a4,a5,ax,a6,a7,a8,ay⟩=>if(decide (au<av))=true then(if 0≤au then(if au<(List.length aw:Int) then(Option.bind (f175 (nth aP aw au).2.1 ax) fun y4=>Option.bind (f175 (nth aP aw au).2.2.1 ax) fun y5=>aG (U:=Int×Int×Zx×Int×Int×bT×Zd×Int×Int×Bool×Zf×Unit×ZB×Zj×Zh×Zi×dq×oR) (Option.bind (α:=Bool) (if(!decide ((nth aP aw au).2.1.2.2.1=(-1:Int)))=true then(some (!decide ((nth aP aw au).2.2.1.2.2.1=(-1:Int)))) else(some false)) fun v7=>if v7=true then(Option.bind (pk (nth aP aw au).2.1 ay az a0 a1 a2 a3 a4 a5 ax a6 a7 a8) fun⟨m,a,b,c,d,e,f,g,h,i,j,k,l⟩=>Option.bind (pk (nth aP aw au).2.2.1 a b c d e f g h i j k l) fun⟨n,z,o,p,q,r,s,t,u,v,w,x,y⟩=>some (.brk (m,n,aw,av,au,o,p,q,r,s,t,u,v,w,x,y,z,nth aP aw au))) else(some (.brk (y4,y5,aw,av,au,az,a0,a1,a2,a3,a4,a5,ax,a6,a7,a8,ay,nth aP aw au)))) fun⟨ab,ac,ao,ap,aq,ad,ae,af,ag,ah,ai,aj,ak,al,am,an,ar,aa⟩=>Option.bind (f218 aa.1 ab ac) fun y10=>if(!y10)=true then(bZ (some (false,ad,ae,af,ag,ah,ai,aj,ak,al,am,an))) else(acK (ao,ap,aZ (aq+1),ad,ae,af,ag,ah,ai,aj,ak,al,am,an,ar))) else none) else none) else(some (.brk (az,a0,a1,a2,a3,a4,a5,ax,a6,a7,a8)))
def mL(a0:dq)(a1:bT)(a2:Zd)(a3:Int)(a4:Int)(a5:Bool)(a6:Zf)(a7:Unit)(a8:ZB)(a9:Zj)(a10:Zh)(a11:Zi):Option (Bool×ZV):=
 aG (U:=ZV) (gr (Int.toNat (List.length a0.2.2.2.1:Int)+1) (a0.2.2.2.1,(List.length a0.2.2.2.1:Int),0,a1,a2,a3,a4,a5,a6,a7,a8,a9,a10,a11,a0)) fun⟨a,b,c,d,e,f,g,h,i,j,k⟩=>some (true,a,b,c,d,e,f,g,h,i,j,k)
def Wy:SS:=⟨53,93,[tP 5 21,(7,.func 216 .nil (.cons (pP 20) (.cons (pP 19) (.cons (pP 21) .nil)))),tP 9 25,tI 10,tI 11,(14,.val (.slice 120 aP)),tI 15,tI 16],[(0,fB 2 3 4),(1,.row 53 48 fL),(2,.map bx cj),(3,.map bC .bool),(4,.row 74 40 bC),(19,.var (.aR .ptr) (pP 0)),(20,bV bz),(21,.var (.slice 48 fL) (.own 1)),(25,bV aP)],[]⟩
def Wz:SS:=⟨53,93,[],[(0,fB 2 3 4),(1,.row 53 48 fL),(2,.map bx cj),(3,.map bC .bool),(4,.row 74 40 bC)],[]⟩
def WA:SS:=⟨53,93,[tP 5 21,(7,.func 216 .nil (.cons (pP 20) (.cons (pP 19) (.cons (pP 21) .nil)))),(14,.val (.slice 120 aP)),tI 15,tI 16],[(0,fB 2 3 4),(1,.row 53 48 fL),(2,.map bx cj),(3,.map bC .bool),(4,.row 74 40 bC),(19,.var (.aR .ptr) (pP 0)),(20,bV bz),(21,.var (.slice 48 fL) (.own 1))],[]⟩
def WC:SS:=⟨53,93,[(6,vB)],[(0,fB 2 3 4),(1,.row 53 48 fL),(2,.map bx cj),(3,.map bC .bool),(4,.row 74 40 bC)],[]⟩
def Kv:aW:=aF G [.tmp 6] 174 [pP 0,.val bz,.own 1] [(0,fB 2 3 4),(1,.row 53 48 fL),(2,.map bx cj),(3,.map bC .bool),(4,.row 74 40 bC)] 93 WC [0,1,2,3,4] (.bE (Lc mL))
theorem Kw:hS Kv:=
 cO ⟨[hE 5 [cA 0,cA 0],hD 6 37 [],hE 7 [cB 1 [(0,20),(1,19),(2,21),(3,0),(4,1),(5,2),(6,3),(7,4)] [],cB 1 [(0,20),(1,19),(2,21),(3,0),(4,1),(5,2),(6,3),(7,4)] []],hA 8 2],[(8,Wy),(11,Wz)],[],[(3,⟨WA,fun u2=>Int.toNat u2.2.1+1⟩)],[],[]⟩ (hq Nq (hq Km (hq Wx hz))) aI Tryz.call174 Tryz.func174
def mh(q0_:Zc)(q1_:Zb):Nat→Int×Int×Int×dq×Int×bT×Zd×Int×Int×Bool×Zf×Unit×Zj×Zh×xw×ZB×Zi→Option (cQ (dq×Int×ZL) (Bool×dq×Int×ZL)):=aK fun rec6 ⟨ac,aa,z,ao,ap,ad,ae,af,ag,ah,ai,aj,ak,al,ab,an,am⟩=>if(decide (z<aa))=true then(Option.bind (q0_ ((ab.2.2.1,ac,z,()),ad,ae,af,ag,ah,ai,aj,ak,al,am,())) fun⟨b,c,d,e,f,g,h,i,j,a,k⟩=>if a.2.2.2.1=true then(if(List.length an+List.length [a.1])*48≤aE then(Option.bind (q1_ (ao,ap,an++[a.1],b,c,d,e,f,g,h,i,j,k,())) fun⟨l,m,n,o,p,q,r,s,t,u,v,w,x,y⟩=>if l=true then(bZ (some (true,m,n,o,p,q,r,s,t,u,v,w,x,y))) else(if 0≤(aZ ((List.length x:Int) -(1:Int))) then(if(aZ ((List.length x:Int) -(1:Int)))≤(List.length x:Int) then(rec6 (ac,aa,aZ (z+1),m,n,o,p,q,r,s,t,u,v,w,ab,List.take ((Int.toNat (aZ ((List.length x:Int) -(1:Int)))) -0) x,y)) else none) else none)) else none) else(rec6 (ac,aa,aZ (z+1),ao,ap,b,c,d,e,f,g,h,i,j,ab,an,k))) else(some (.brk (ao,ap,ad,ae,af,ag,ah,ai,aj,ak,al,an,am)))
def mM(q0_:Zc)(q1_:Zb)(a0:dq)(a1:Int)(a2:ZB)(a3:bT)(a4:Zd)(a5:Int)(a6:Int)(a7:Bool)(a8:Zf)(a9:Unit)(a10:Zj)(a11:Zh)(a12:Zi):Option (Bool×dq×Int×ZL):=
 if(decide ((List.length a2:Int)=(List.length a0.2.2.1:Int)))=true then(Option.bind (mL a0 a3 a4 a5 a6 a7 a8 a9 a2 a10 a11 a12) fun⟨a,b,c,d,e,f,g,h,k,i,j,l⟩=>some (a,a0,a1,b,c,d,e,f,g,h,i,j,k,l)) else(if 0≤(List.length a2:Int) then(if(List.length a2:Int)<(List.length a0.2.2.1:Int) then(aG (U:=Int×Int×dq×Int×ZB×bT×Zd×Int×Int×Bool×Zf×Unit×Zj×Zh×Zi×xw) (if(!decide ((nth aL a0.2.2.1 (List.length a2:Int)).2.2.2.1.2.2.1=(-1:Int)))=true then(if 0≤(nth aL a0.2.2.1 (List.length a2:Int)).2.2.2.1.2.2.1 then(if(nth aL a0.2.2.1 (List.length a2:Int)).2.2.2.1.2.2.1<(List.length a2:Int) then(if 0≤(nth aL a0.2.2.1 (List.length a2:Int)).2.2.2.1.2.2.2.1 then(if(nth aL a0.2.2.1 (List.length a2:Int)).2.2.2.1.2.2.2.1<(List.length (nth fL a2 (nth aL a0.2.2.1 (List.length a2:Int)).2.2.2.1.2.2.1).2.2.2.1:Int) then(some (.brk (nth (.int .i64) (nth fL a2 (nth aL a0.2.2.1 (List.length a2:Int)).2.2.2.1.2.2.1).2.2.2.1 (nth aL a0.2.2.1 (List.length a2:Int)).2.2.2.1.2.2.2.1,4,a0,a1,a2,a3,a4,a5,a6,a7,a8,a9,a10,a11,a12,nth aL a0.2.2.1 (List.length a2:Int)))) else none) else none) else none) else none) else(some (.brk (a1,4,a0,a1,a2,a3,a4,a5,a6,a7,a8,a9,a10,a11,a12,nth aL a0.2.2.1 (List.length a2:Int))))) fun⟨o,ab,p,q,r,s,t,u,v,w,n,x,y,z,aa,m⟩=>aG (U:=Int×Int×dq×Int×ZB×bT×Zd×Int×Int×Bool×Zf×Unit×Zj×Zh×Zi×xw) (if(bw (.int .i64) .bool m.2.2.1 (bM n))=true then(some (.brk (o,1,p,q,r,s,t,u,v,w,n,x,y,z,aa,m))) else(some (.brk (o,ab,p,q,r,s,t,u,v,w,n,x,y,z,aa,m)))) fun⟨ad,ac,ae,af,aq,ag,ah,ai,aj,ak,al,am,an,ao,ar,ap⟩=>aG (U:=dq×Int×ZL) (mh q0_ q1_ (Int.toNat ac+1) (ad,ac,0,ae,af,ag,ah,ai,aj,ak,al,am,an,ao,ap,aq,ar)) fun⟨au,av,aw,ax,ay,az,ba,bb,bc,bd,be,bf,bg⟩=>some (false,au,av,aw,ax,ay,az,ba,bb,bc,bd,be,bf,bg)) else none) else none)
def PN:SS:=⟨77,117,[tP 0 0,tP 2 2,tP 4 4,tP 6 22,tI 7,tI 8],[(0,.var (.slice 48 fL) (.own 5)),(1,bV bz),(2,.var (.aR .ptr) (pP 6)),(3,bI),(4,.var (.aR .func) (.func 173 .nil (.cons (pP 0) (.cons (pP 1) (.cons (pP 2) (.cons (pP 3) (.cons (pP 4) .nil))))))),(5,.row 53 48 fL),(6,fB 7 8 9),(7,.map bx cj),(8,.map bC .bool),(9,.row 74 40 bC),(22,bV aL)],[]⟩
def WD:SS:=⟨77,117,[],[(0,.var (.slice 48 fL) (.own 97)),(1,bV bz),(2,.var (.aR .ptr) (pP 6)),(3,bI),(4,.var (.aR .func) (.func 173 .nil (.cons (pP 0) (.cons (pP 1) (.cons (pP 2) (.cons (pP 3) (.cons (pP 4) .nil))))))),(6,fB 7 8 98),(7,.map bx cj),(8,.map bC .bool),(97,.row 53 48 fL),(98,.row 74 40 bC)],[]⟩
def WE:SS:=⟨77,117,[tP 0 0,tP 2 2,tP 4 4,tP 6 22,tI 7,tI 51,tI 52],[(0,.var (.slice 48 fL) (.own 95)),(1,bV bz),(2,.var (.aR .ptr) (pP 6)),(3,bI),(4,.var (.aR .func) (.func 173 .nil (.cons (pP 0) (.cons (pP 1) (.cons (pP 2) (.cons (pP 3) (.cons (pP 4) .nil))))))),(6,fB 7 8 96),(7,.map bx cj),(8,.map bC .bool),(22,bV aL),(95,.row 53 48 fL),(96,.row 74 40 bC)],[]⟩
def WG:SS:=⟨77,117,[(5,vB)],[(0,.var (.slice 48 fL) (.own 99)),(1,bV bz),(2,.var (.aR .ptr) (pP 6)),(3,bI),(4,.var (.aR .func) (.func 173 .nil (.cons (pP 0) (.cons (pP 1) (.cons (pP 2) (.cons (pP 3) (.cons (pP 4) .nil))))))),(6,fB 7 8 100),(7,.map bx cj),(8,.map bC .bool),(99,.row 53 48 fL),(100,.row 74 40 bC)],[]⟩
def Kx(q0_:Zc)(q1_:Zb):aW:=aF G [.tmp 5] 173 [pP 0,pP 1,pP 2,pP 3,pP 4] [(0,.var (.slice 48 fL) (.own 5)),(1,bV bz),(2,.var (.aR .ptr) (pP 6)),(3,bI),(4,.var (.aR .func) (.func 173 .nil (.cons (pP 0) (.cons (pP 1) (.cons (pP 2) (.cons (pP 3) (.cons (pP 4) .nil))))))),(5,.row 53 48 fL),(6,fB 7 8 9),(7,.map bx cj),(8,.map bC .bool),(9,.row 74 40 bC)] 117 WG [0,1,2,3,4,6,7,8,99,100] (.bE (Hf (mM q0_ q1_)))
theorem Kz(q0_:Zc)(q1_:Zb)(h0_:hS (tZ q0_))(h1_:hS (pn q1_)):hS (Kx q0_ q1_):=
 cO ⟨[hE 2 [cB 0 [(0,6),(1,5),(2,7),(3,8),(4,9)] []],hE 12 [cB 1 [(0,6),(1,7),(2,8),(3,96)] [(93,77)]],hE 15 [cB 2 [(0,0),(1,1),(2,2),(3,3),(4,4),(5,84),(6,6),(7,7),(8,8),(9,77)] [(99,86),(100,93)]],(17,⟨[],[],[],none,[],[],[.np 0 [] 94]⟩)],[(7,PN),(9,PN),(19,WD)],[],[(10,⟨WE,fun u5=>Int.toNat u5.2.1+1⟩)],[],[]⟩ (hq Kw (hq h0_ (hq h1_ hz))) aI Tryz.call173 Tryz.func173
def gS:Nat→Zc×Zb:=@Nat.rec (fun _=>(gX×bT×(Zd)×Int×Int×Bool×(Zf)×Unit×(Zj)×(Zh)×(Zi)×Unit→Option ZP)×(dq×Int×(ZB)×bT×(Zd)×Int×Int×Bool×(Zf)×Unit×(Zj)×(Zh)×(Zi)×Unit→Option (Bool×dq×Int×ZL))) (fun _=>none,fun _=>none) (fun _ ih=>(fun d=>qm ih.1 ih.2 d.1 d.2.1 d.2.2.1 d.2.2.2.1 d.2.2.2.2.1 d.2.2.2.2.2.1 d.2.2.2.2.2.2.1 d.2.2.2.2.2.2.2.1 d.2.2.2.2.2.2.2.2.1 d.2.2.2.2.2.2.2.2.2.1 d.2.2.2.2.2.2.2.2.2.2.1,fun d=>mM ih.1 ih.2 d.1 d.2.1 d.2.2.1 d.2.2.2.1 d.2.2.2.2.1 d.2.2.2.2.2.1 d.2.2.2.2.2.2.1 d.2.2.2.2.2.2.2.1 d.2.2.2.2.2.2.2.2.1 d.2.2.2.2.2.2.2.2.2.1 d.2.2.2.2.2.2.2.2.2.2.1 d.2.2.2.2.2.2.2.2.2.2.2.1 d.2.2.2.2.2.2.2.2.2.2.2.2.1))
theorem Eu(n:Nat):hS (tZ ((gS n).1))∧hS (pn ((gS n).2)):=by
 induction n with
 |zero=>exact⟨aW.Pb,aW.Pb⟩
 |succ n ih=>exact⟨MR _ _ ih.1 ih.2,Kz _ _ ih.1 ih.2⟩
def jY(a0:gX)(a1:bT)(a2:Zd)(a3:Int)(a4:Int)(a5:Bool)(a6:Zf)(a7:Unit)(a8:Zj)(a9:Zh)(a10:Zi):Option ZP:=(gS gD).1 (a0,a1,a2,a3,a4,a5,a6,a7,a8,a9,a10,())
def KA:aW:=aF G [.cell 4 135] 47 [pP 0,.val bx] [(0,fB 1 2 3),(1,.map bx cj),(2,.map bC .bool),(3,.row 74 40 bC)] 115 B6 [0,1,2,93] (.bE (IV jY))
theorem KB:hS KA:=(Eu gD).1
end Go.Proofs.YtgdcjlldafmomaaGreat
