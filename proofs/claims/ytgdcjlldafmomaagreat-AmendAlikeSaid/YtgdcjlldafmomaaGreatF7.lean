/- part -/
import Derived.Test.YtgdcjlldafmomaaGreatUF
noncomputable section
namespace Go.Proofs.YtgdcjlldafmomaaGreat
open Go.Ax
def gZ(q0_:Zc)(q1_:Zb)(a0:ib)(a1:bO)(a2:Zd)(a3:Int)(a4:Int)(a5:Bool)(a6:Zf)(a7:Unit)(a8:Zj)(a9:Zi)(a10:Zh):Option ZR:=
 if(cJ bu a0 a8)=true then(some (a1,a2,a3,a4,a5,a6,a7,a8,a9,bz bu cp a0 a8,a10)) else(aG (U:=bO×Zd×Int×Int×Bool×Zf×Unit×Zj×Zi×ib×Int×Int×Int×Int×Bool×qj×Zh) (if(bz (.int .i64) .bool a0.1 (bU a6))=true then(Option.bind (lr q0_ q1_ a0 a1 a2 a3 a4 a5 a6 a7 a8 a9 a10) fun⟨a,b,c,d,e,f,g,h,i,j,k⟩=>some (.brk (a,b,c,d,e,f,g,h,i,a0,0,0,0,0,false,j,k))) else(Option.bind (iA a0 a1 a2 a3 a4 a5 a6 a7 a8 a9 a10) fun⟨l,m,n,o,p,q,r,s,t,u,v⟩=>ym (.var jM (.cons (.val fp a1) (.cons (.val (.map bu (.slice 64 aP)) a2) (.cons (.val (.int .i64) a3) (.cons (.val (.int .i64) a4) (.cons (.val .bool a5) (.cons (.val (.map (.int .i64) .bool) a6) (.cons (.mp 1) (.cons (.mp 2) (.cons (.own 3) (.val .unit a7))))))))))) (.var jM (.cons (.val fp l) (.cons (.val (.map bu (.slice 64 aP)) m) (.cons (.val (.int .i64) n) (.cons (.val (.int .i64) o) (.cons (.val .bool p) (.cons (.val (.map (.int .i64) .bool) q) (.cons (.mp 1) (.cons (.mp 2) (.cons (.own 3) (.val .unit r))))))))))) (ym (.map bu cp a8) (.map bu cp s) (ym (.map bx .bool a9) (.map bx .bool t) (ym (.row 74 40 bx a10) (.row 74 40 bx u) (Option.bind (f33 v a0.1 a0.2.1 a0.2.2.1 a3 a4) fun⟨y,x,w⟩=>Option.bind (pJ w) fun y5=>Option.bind (gW a10 y5 a1 a2 a3 a4 a5 a6 a7 a8 a9) fun⟨_,z,aa,ab,ac,ad,ae,af,ag,ah,ai⟩=>some (.brk (z,aa,ab,ac,ad,ae,af,ag,ah,a0,0,0,0,0,false,(x,0,([]:Zx),y,()),ai)))))))) fun⟨ak,al,am,an,ao,ap,aq,aj,av,ar,_,_,_,_,_,au,aw⟩=>if List.length aj+1≤aE then(some (ak,al,am,an,ao,ap,aq,bE bu ar au aj,av,au,aw)) else none)
def V7:SS:=⟨75,115,[tP 0 0,tP 3 19,tP 4 20,tP 7 23],[(0,fB 1 2 92),(1,.map bu cp),(2,.map bx .bool),(19,bV bu),(20,.var cp (.cons (.cons vI (.cons vI (.cons vI (.cons .bA .nil)))) (.cons vI (.cons .bA (.cons vB .nil))))),(23,bV cp),(92,.row 74 40 bx)],[]⟩
def V8:SS:=⟨75,115,[tP 4 20],[(0,fB 1 2 93),(1,.map bu cp),(2,.map bx .bool),(20,bV cp),(93,.row 74 40 bx)],[]⟩
def Mg(q0_:Zc)(q1_:Zb):aW:=aF G [.cell 4 135] 47 [pP 0,.val bu] [(0,fB 1 2 3),(1,.map bu cp),(2,.map bx .bool),(3,.row 74 40 bx)] 115 V8 [0,1,2,93] (.bH (IW (gZ q0_ q1_)))
theorem Mh(q0_:Zc)(q1_:Zb)(h0_:hS (ud q0_))(h1_:hS (pz q1_)):hS (Mg q0_ q1_):=
 cO ⟨[hE 6 [cB 0 [(0,0),(1,1),(2,2),(3,3)] [(65,47)]],hE 7 [⟨[1],[(0,0),(1,1),(2,2),(3,3)],[],[],[0,1,2,3]⟩,cA 2],hE 9 [⟨[3],[],[(18,80),(19,91)],[(0,0)],[]⟩,cB 4 [(0,3),(1,91),(2,80),(3,0),(4,1),(5,2)] [(32,81)]]],[(10,V7)],[],[],[],[]⟩ (hq (LS q0_ q1_ h0_ h1_) (hq LV (hq Xd (hq KA (hq Jl hz))))) aJ Tryz.call47 Tryz.func47
def f220(a0:dx)(a1:oe):Option (Bool×ju):=
 Option.bind (f78 a0 a1.2.2.1 a1.2.2.2.1) fun⟨a,b⟩=>Option.bind (α:=Bool) (if(!a)=true then(some true) else(Option.bind (f79 a0 b) fun y2=>if(!y2)=true then(some true) else(if(decide ((0:Int)≤b.2.2.2.2.1))=true then(if 0≤b.2.2.2.2.1 then(if b.2.2.2.2.1<(List.length a0.1.2.1:Int) then(Option.bind (f85 a0 (nth aS a0.1.2.1 b.2.2.2.2.1)) fun y3=>some (!y3)) else none) else none) else(some false)))) fun v4=>if v4=true then(some (false,b)) else(some (true,b))
def V9:SS:=⟨42,82,[tP 4 20,(5,vB)],[(20,bV lT)],[]⟩
def Wa:aW:=aF G [.cell 4 96,.tmp 5] 220 [.val dn,.val eF] [] 82 V9 [] (.bH (u2 f220))
theorem Wb:hS Wa:=
 cO (hR [hA 1 0,hD 2 39 [cA 1,cA 2]]) (hq Ng (hq Rs (hq Xm hz))) aJ Tryz.call220 Tryz.func220
def f217(a0:cY)(a1:oe)(a2:Int):Option ZY:=
 Option.bind (f220 (a0,()) a1) fun⟨a,b⟩=>aG (U:=Int×cY×ju) (Option.bind (α:=Bool) (if(!a)=true then(some true) else(if(decide (a2<(0:Int)))=true then(some true) else(some (decide ((1048576:Int)<a2))))) fun v3=>if v3=true then(cn (some (0,120))) else(some (.brk (a2,a0,b)))) fun⟨e,d,c⟩=>if(decide ((0:Int)≤c.2.2.2.2.1))=true then(if 0≤c.2.2.2.2.1 then(if c.2.2.2.2.1<(List.length d.2.1:Int) then(some (aZ (e*(nth aS d.2.1 c.2.2.2.2.1).2.2.2.2.1),0)) else none) else none) else(some (e,0))
def Wc:SS:=⟨42,82,[tI 2,tP 3 19,tP 9 25],[(19,bV gS),(25,bV lT)],[]⟩
def We:SS:=⟨42,82,[tI 6,tI 7],[],[]⟩
def Wf:aW:=aF G [.tmp 6,.tmp 7] 217 [.val gS,.val eF,vI] [] 82 We [] (.bH (u3 f217))
theorem Wg:hS Wf:=
 cO ⟨[hA 2 0,hD 3 28 []],[(5,Wc)],[],[],[],[]⟩ (hq Wb hz) aJ Tryz.call217 Tryz.func217
def pC(a0:gU)(a1:cQ)(a2:bO)(a3:Zd)(a4:Int)(a5:Int)(a6:Bool)(a7:Zf)(a8:Unit)(a9:Zx)(a10:Zj)(a11:Zi)(a12:Zh):Option (Int×cQ×ZW):=
 if 0≤a0.2.2.1 then(if a0.2.2.1<(List.length a1.2.2.1:Int) then(Option.bind (f175 a0 a9) fun y1=>Option.bind (f217 a2.1.1 ([],[],(nth aL a1.2.2.1 a0.2.2.1).2.2.1,a0.2.2.2.1,()) y1) fun⟨a,_⟩=>some (a,a1,a2,a3,a4,a5,a6,a7,a8,a9,a10,a11,a12)) else none) else none
def Wh:SS:=⟨34,74,[tI 5],[(0,bV bD),(1,.var (.aR .ptr) (pP 3)),(2,.var (.slice 48 gz) (.own 4)),(3,fB 5 6 7),(4,.row 53 48 gz),(5,.map bu cp),(6,.map bx .bool),(7,.row 74 40 bx)],[]⟩
def JG:aW:=aF G [.tmp 5] 216 [.val aS,pP 0,pP 1,pP 2] [(0,bV bD),(1,.var (.aR .ptr) (pP 3)),(2,.var (.slice 48 gz) (.own 4)),(3,fB 5 6 7),(4,.row 53 48 gz),(5,.map bu cp),(6,.map bx .bool),(7,.row 74 40 bx)] 74 Wh [0,1,2,3,4,5,6,7] (.bH (Gv pC))
theorem JH:hS JG:=
 cO (hR [hE 2 [cA 0,cA 1]]) (hq LQ (hq Wg hz)) aJ Tryz.call216 Tryz.func216
def Da(a0:Int)(a1:Int):Zl:=
 some (!decide (a0=a1))
def Wi:SS:=⟨6,46,[(2,vB)],[],[]⟩
def JI:aW:=aF G [.tmp 2] 224 [.bN (.int .i64),.bN (.int .i64)] [] 46 Wi [] (.bH (u2 Da))
theorem JJ:hS JI:=
 cO (hR []) hz aJ Tryz.call224 Tryz.func224
def Db(a0:Int)(a1:Int):Zl:=
 some (decide (a0≤a1))
def Wj:SS:=⟨6,46,[(2,vB)],[],[]⟩
def JK:aW:=aF G [.tmp 2] 223 [.bN (.int .i64),.bN (.int .i64)] [] 46 Wj [] (.bH (u2 Db))
theorem JL:hS JK:=
 cO (hR []) hz aJ Tryz.call223 Tryz.func223
def Dc(a0:Int)(a1:Int):Zl:=
 some (decide (a0<a1))
def Wl:SS:=⟨6,46,[(2,vB)],[],[]⟩
def JM:aW:=aF G [.tmp 2] 222 [.bN (.int .i64),.bN (.int .i64)] [] 46 Wl [] (.bH (u2 Dc))
theorem JN:hS JM:=
 cO (hR []) hz aJ Tryz.call222 Tryz.func222
def Dd(a0:Int)(a1:Int):Zl:=
 some (decide (a0=a1))
def Wm:SS:=⟨6,46,[(2,vB)],[],[]⟩
def JO:aW:=aF G [.tmp 2] 221 [.bN (.int .i64),.bN (.int .i64)] [] 46 Wm [] (.bH (u2 Dd))
theorem JP:hS JO:=
 cO (hR []) hz aJ Tryz.call221 Tryz.func221
def f218(a0:Int)(a1:Int)(a2:Int):Zl:=
 if aX (.int .i64) a0 (1:Int)=true then(Option.bind (Dd a1 a2) fun y4=>some y4) else(if aX (.int .i64) a0 (2:Int)=true then(Option.bind (Dc a1 a2) fun y3=>some y3) else(if aX (.int .i64) a0 (3:Int)=true then(Option.bind (Db a1 a2) fun y2=>some y2) else(if aX (.int .i64) a0 (4:Int)=true then(Option.bind (Da a1 a2) fun y1=>some y1) else(some false))))
def Wn:SS:=⟨26,66,[(6,vB)],[],[]⟩
def Wo:aW:=aF G [.tmp 6] 218 [vI,vI,vI] [] 66 Wn [] (.bH (u3 f218))
theorem Wp:hS Wo:=
 cO (hR [hE 3 [⟨[0,1,2,3],[],[],[],[]⟩]]) (hq JJ (hq JL (hq JN (hq JP hz)))) aJ Tryz.call218 Tryz.func218
def gF:Nat→Zy×Int×Int×bO×Zd×Int×Int×Bool×Zf×Unit×Zx×Zj×Zi×Zh×cQ→Option (cW ZW (Bool×ZW)):=aK fun abG ⟨aw,av,au,az,a0,a1,a2,a3,a4,a5,ax,a6,a7,a8,ay⟩=>if(decide (au<av))=true then(if 0≤au then(if au<(List.length aw:Int) then(Option.bind (f175 (nth aQ aw au).2.1 ax) fun y4=>Option.bind (f175 (nth aQ aw au).2.2.1 ax) fun y5=>aG (U:=Int×Int×Zy×Int×Int×bO×Zd×Int×Int×Bool×Zf×Unit×Zx×Zj×Zi×Zh×cQ×px) (Option.bind (α:=Bool) (if(!decide ((nth aQ aw au).2.1.2.2.1=(-1:Int)))=true then(some (!decide ((nth aQ aw au).2.2.1.2.2.1=(-1:Int)))) else(some false)) fun v7=>if v7=true then(Option.bind (pC (nth aQ aw au).2.1 ay az a0 a1 a2 a3 a4 a5 ax a6 a7 a8) fun⟨m,a,b,c,d,e,f,g,h,i,j,k,l⟩=>Option.bind (pC (nth aQ aw au).2.2.1 a b c d e f g h i j k l) fun⟨n,z,o,p,q,r,s,t,u,v,w,x,y⟩=>some (.brk (m,n,aw,av,au,o,p,q,r,s,t,u,v,w,x,y,z,nth aQ aw au))) else(some (.brk (y4,y5,aw,av,au,az,a0,a1,a2,a3,a4,a5,ax,a6,a7,a8,ay,nth aQ aw au)))) fun⟨ab,ac,ao,ap,aq,ad,ae,af,ag,ah,ai,aj,ak,al,am,an,ar,aa⟩=>Option.bind (f218 aa.1 ab ac) fun y10=>if(!y10)=true then(cn (some (false,ad,ae,af,ag,ah,ai,aj,ak,al,am,an))) else(abG (ao,ap,aZ (aq+1),ad,ae,af,ag,ah,ai,aj,ak,al,am,an,ar))) else none) else none) else(some (.brk (az,a0,a1,a2,a3,a4,a5,ax,a6,a7,a8)))
def sx(a0:cQ)(a1:bO)(a2:Zd)(a3:Int)(a4:Int)(a5:Bool)(a6:Zf)(a7:Unit)(a8:Zx)(a9:Zj)(a10:Zi)(a11:Zh):Option (Bool×ZW):=
 aG (U:=ZW) (gF (Int.toNat (List.length a0.2.2.2.1:Int)+1) (a0.2.2.2.1,(List.length a0.2.2.2.1:Int),0,a1,a2,a3,a4,a5,a6,a7,a8,a9,a10,a11,a0)) fun⟨a,b,c,d,e,f,g,h,i,j,k⟩=>some (true,a,b,c,d,e,f,g,h,i,j,k)
def Wq:SS:=⟨53,93,[tP 5 21,(7,.func 216 .nil (.cons (pP 20) (.cons (pP 19) (.cons (pP 21) .nil)))),tP 9 25,tI 10,tI 11,(14,.val (.slice 120 aQ)),tI 15,tI 16],[(0,fB 2 3 4),(1,.row 53 48 gz),(2,.map bu cp),(3,.map bx .bool),(4,.row 74 40 bx),(19,.var (.aR .ptr) (pP 0)),(20,bV bD),(21,.var (.slice 48 gz) (.own 1)),(25,bV aQ)],[]⟩
def Wr:SS:=⟨53,93,[],[(0,fB 2 3 4),(1,.row 53 48 gz),(2,.map bu cp),(3,.map bx .bool),(4,.row 74 40 bx)],[]⟩
def Ws:SS:=⟨53,93,[tP 5 21,(7,.func 216 .nil (.cons (pP 20) (.cons (pP 19) (.cons (pP 21) .nil)))),(14,.val (.slice 120 aQ)),tI 15,tI 16],[(0,fB 2 3 4),(1,.row 53 48 gz),(2,.map bu cp),(3,.map bx .bool),(4,.row 74 40 bx),(19,.var (.aR .ptr) (pP 0)),(20,bV bD),(21,.var (.slice 48 gz) (.own 1))],[]⟩
def Wt:SS:=⟨53,93,[(6,vB)],[(0,fB 2 3 4),(1,.row 53 48 gz),(2,.map bu cp),(3,.map bx .bool),(4,.row 74 40 bx)],[]⟩
def JQ:aW:=aF G [.tmp 6] 174 [pP 0,.val bD,.own 1] [(0,fB 2 3 4),(1,.row 53 48 gz),(2,.map bu cp),(3,.map bx .bool),(4,.row 74 40 bx)] 93 Wt [0,1,2,3,4] (.bH (Ko sx))
theorem JR:hS JQ:=
 cO ⟨[hE 5 [cA 0,cA 0],hD 6 37 [],hE 7 [cB 1 [(0,20),(1,19),(2,21),(3,0),(4,1),(5,2),(6,3),(7,4)] [],cB 1 [(0,20),(1,19),(2,21),(3,0),(4,1),(5,2),(6,3),(7,4)] []],hA 8 2],[(8,Wq),(11,Wr)],[],[(3,⟨Ws,fun u2=>Int.toNat u2.2.1+1⟩)],[],[]⟩ (hq LQ (hq JH (hq Wp hz))) aJ Tryz.call174 Tryz.func174
def fF(q0_:Zc)(q1_:Zb):Nat→Int×Int×Int×cQ×Int×bO×Zd×Int×Int×Bool×Zf×Unit×Zj×Zi×xI×Zx×Zh→Option (cW (cQ×Int×ZL) (Bool×cQ×Int×ZL)):=aK fun rec6 ⟨ac,aa,z,ao,ap,ad,ae,af,ag,ah,ai,aj,ak,al,ab,an,am⟩=>if(decide (z<aa))=true then(Option.bind (q0_ ((ab.2.2.1,ac,z,()),ad,ae,af,ag,ah,ai,aj,ak,al,am,())) fun⟨b,c,d,e,f,g,h,i,j,a,k⟩=>if a.2.2.2.1=true then(if(List.length an+List.length [a.1])*48≤aE then(Option.bind (q1_ (ao,ap,an++[a.1],b,c,d,e,f,g,h,i,j,k,())) fun⟨l,m,n,o,p,q,r,s,t,u,v,w,x,y⟩=>if l=true then(cn (some (true,m,n,o,p,q,r,s,t,u,v,w,x,y))) else(if 0≤(aZ ((List.length x:Int) -(1:Int))) then(if(aZ ((List.length x:Int) -(1:Int)))≤(List.length x:Int) then(rec6 (ac,aa,aZ (z+1),m,n,o,p,q,r,s,t,u,v,w,ab,List.take ((Int.toNat (aZ ((List.length x:Int) -(1:Int)))) -0) x,y)) else none) else none)) else none) else(rec6 (ac,aa,aZ (z+1),ao,ap,b,c,d,e,f,g,h,i,j,ab,an,k))) else(some (.brk (ao,ap,ad,ae,af,ag,ah,ai,aj,ak,al,an,am)))
def kf(q0_:Zc)(q1_:Zb)(a0:cQ)(a1:Int)(a2:Zx)(a3:bO)(a4:Zd)(a5:Int)(a6:Int)(a7:Bool)(a8:Zf)(a9:Unit)(a10:Zj)(a11:Zi)(a12:Zh):Option (Bool×cQ×Int×ZL):=
 if(decide ((List.length a2:Int)=(List.length a0.2.2.1:Int)))=true then(Option.bind (sx a0 a3 a4 a5 a6 a7 a8 a9 a2 a10 a11 a12) fun⟨a,b,c,d,e,f,g,h,k,i,j,l⟩=>some (a,a0,a1,b,c,d,e,f,g,h,i,j,k,l)) else(if 0≤(List.length a2:Int) then(if(List.length a2:Int)<(List.length a0.2.2.1:Int) then(aG (U:=Int×Int×cQ×Int×Zx×bO×Zd×Int×Int×Bool×Zf×Unit×Zj×Zi×Zh×xI) (if(!decide ((nth aL a0.2.2.1 (List.length a2:Int)).2.2.2.1.2.2.1=(-1:Int)))=true then(if 0≤(nth aL a0.2.2.1 (List.length a2:Int)).2.2.2.1.2.2.1 then(if(nth aL a0.2.2.1 (List.length a2:Int)).2.2.2.1.2.2.1<(List.length a2:Int) then(if 0≤(nth aL a0.2.2.1 (List.length a2:Int)).2.2.2.1.2.2.2.1 then(if(nth aL a0.2.2.1 (List.length a2:Int)).2.2.2.1.2.2.2.1<(List.length (nth gz a2 (nth aL a0.2.2.1 (List.length a2:Int)).2.2.2.1.2.2.1).2.2.2.1:Int) then(some (.brk (nth (.int .i64) (nth gz a2 (nth aL a0.2.2.1 (List.length a2:Int)).2.2.2.1.2.2.1).2.2.2.1 (nth aL a0.2.2.1 (List.length a2:Int)).2.2.2.1.2.2.2.1,4,a0,a1,a2,a3,a4,a5,a6,a7,a8,a9,a10,a11,a12,nth aL a0.2.2.1 (List.length a2:Int)))) else none) else none) else none) else none) else(some (.brk (a1,4,a0,a1,a2,a3,a4,a5,a6,a7,a8,a9,a10,a11,a12,nth aL a0.2.2.1 (List.length a2:Int))))) fun⟨o,ab,p,q,r,s,t,u,v,w,n,x,y,z,aa,m⟩=>aG (U:=Int×Int×cQ×Int×Zx×bO×Zd×Int×Int×Bool×Zf×Unit×Zj×Zi×Zh×xI) (if(bz (.int .i64) .bool m.2.2.1 (bU n))=true then(some (.brk (o,1,p,q,r,s,t,u,v,w,n,x,y,z,aa,m))) else(some (.brk (o,ab,p,q,r,s,t,u,v,w,n,x,y,z,aa,m)))) fun⟨ad,ac,ae,af,aq,ag,ah,ai,aj,ak,al,am,an,ao,ar,ap⟩=>aG (U:=cQ×Int×ZL) (fF q0_ q1_ (Int.toNat ac+1) (ad,ac,0,ae,af,ag,ah,ai,aj,ak,al,am,an,ao,ap,aq,ar)) fun⟨au,av,aw,ax,ay,az,ba,bb,bc,bd,be,bf,bg⟩=>some (false,au,av,aw,ax,ay,az,ba,bb,bc,bd,be,bf,bg)) else none) else none)
def OO:SS:=⟨77,117,[tP 0 0,tP 2 2,tP 4 4,tP 6 22,tI 7,tI 8],[(0,.var (.slice 48 gz) (.own 5)),(1,bV bD),(2,.var (.aR .ptr) (pP 6)),(3,bI),(4,.var (.aR .func) (.func 173 .nil (.cons (pP 0) (.cons (pP 1) (.cons (pP 2) (.cons (pP 3) (.cons (pP 4) .nil))))))),(5,.row 53 48 gz),(6,fB 7 8 9),(7,.map bu cp),(8,.map bx .bool),(9,.row 74 40 bx),(22,bV aL)],[]⟩
def Wu:SS:=⟨77,117,[],[(0,.var (.slice 48 gz) (.own 97)),(1,bV bD),(2,.var (.aR .ptr) (pP 6)),(3,bI),(4,.var (.aR .func) (.func 173 .nil (.cons (pP 0) (.cons (pP 1) (.cons (pP 2) (.cons (pP 3) (.cons (pP 4) .nil))))))),(6,fB 7 8 98),(7,.map bu cp),(8,.map bx .bool),(97,.row 53 48 gz),(98,.row 74 40 bx)],[]⟩
def Wv:SS:=⟨77,117,[tP 0 0,tP 2 2,tP 4 4,tP 6 22,tI 7,tI 51,tI 52],[(0,.var (.slice 48 gz) (.own 95)),(1,bV bD),(2,.var (.aR .ptr) (pP 6)),(3,bI),(4,.var (.aR .func) (.func 173 .nil (.cons (pP 0) (.cons (pP 1) (.cons (pP 2) (.cons (pP 3) (.cons (pP 4) .nil))))))),(6,fB 7 8 96),(7,.map bu cp),(8,.map bx .bool),(22,bV aL),(95,.row 53 48 gz),(96,.row 74 40 bx)],[]⟩
def Ww:SS:=⟨77,117,[(5,vB)],[(0,.var (.slice 48 gz) (.own 99)),(1,bV bD),(2,.var (.aR .ptr) (pP 6)),(3,bI),(4,.var (.aR .func) (.func 173 .nil (.cons (pP 0) (.cons (pP 1) (.cons (pP 2) (.cons (pP 3) (.cons (pP 4) .nil))))))),(6,fB 7 8 100),(7,.map bu cp),(8,.map bx .bool),(99,.row 53 48 gz),(100,.row 74 40 bx)],[]⟩
def JS(q0_:Zc)(q1_:Zb):aW:=aF G [.tmp 5] 173 [pP 0,pP 1,pP 2,pP 3,pP 4] [(0,.var (.slice 48 gz) (.own 5)),(1,bV bD),(2,.var (.aR .ptr) (pP 6)),(3,bI),(4,.var (.aR .func) (.func 173 .nil (.cons (pP 0) (.cons (pP 1) (.cons (pP 2) (.cons (pP 3) (.cons (pP 4) .nil))))))),(5,.row 53 48 gz),(6,fB 7 8 9),(7,.map bu cp),(8,.map bx .bool),(9,.row 74 40 bx)] 117 Ww [0,1,2,3,4,6,7,8,99,100] (.bH (Gv (kf q0_ q1_)))
theorem JT(q0_:Zc)(q1_:Zb)(h0_:hS (ud q0_))(h1_:hS (pz q1_)):hS (JS q0_ q1_):=
 cO ⟨[hE 2 [cB 0 [(0,6),(1,5),(2,7),(3,8),(4,9)] []],hE 12 [cB 1 [(0,6),(1,7),(2,8),(3,96)] [(93,77)]],hE 15 [cB 2 [(0,0),(1,1),(2,2),(3,3),(4,4),(5,84),(6,6),(7,7),(8,8),(9,77)] [(99,86),(100,93)]],(17,⟨[],[],[],none,[],[],[.nB 0 [] 94]⟩)],[(7,OO),(9,OO),(19,Wu)],[],[(10,⟨Wv,fun u5=>Int.toNat u5.2.1+1⟩)],[],[]⟩ (hq JR (hq h0_ (hq h1_ hz))) aJ Tryz.call173 Tryz.func173
def fG:Nat→Zc×Zb:=@Nat.rec (fun _=>(ib×bO×(Zd)×Int×Int×Bool×(Zf)×Unit×(Zj)×(Zi)×(Zh)×Unit→Option ZR)×(cQ×Int×(Zx)×bO×(Zd)×Int×Int×Bool×(Zf)×Unit×(Zj)×(Zi)×(Zh)×Unit→Option (Bool×cQ×Int×ZL))) (fun _=>none,fun _=>none) (fun _ ih=>(fun d=>gZ ih.1 ih.2 d.1 d.2.1 d.2.2.1 d.2.2.2.1 d.2.2.2.2.1 d.2.2.2.2.2.1 d.2.2.2.2.2.2.1 d.2.2.2.2.2.2.2.1 d.2.2.2.2.2.2.2.2.1 d.2.2.2.2.2.2.2.2.2.1 d.2.2.2.2.2.2.2.2.2.2.1,fun d=>kf ih.1 ih.2 d.1 d.2.1 d.2.2.1 d.2.2.2.1 d.2.2.2.2.1 d.2.2.2.2.2.1 d.2.2.2.2.2.2.1 d.2.2.2.2.2.2.2.1 d.2.2.2.2.2.2.2.2.1 d.2.2.2.2.2.2.2.2.2.1 d.2.2.2.2.2.2.2.2.2.2.1 d.2.2.2.2.2.2.2.2.2.2.2.1 d.2.2.2.2.2.2.2.2.2.2.2.2.1))
theorem DT(n:Nat):hS (ud ((fG n).1))∧hS (pz ((fG n).2)):=by
 induction n with
 |zero=>exact⟨aW.M9,aW.M9⟩
 |succ n ih=>exact⟨Mh _ _ ih.1 ih.2,JT _ _ ih.1 ih.2⟩
def kg(a0:ib)(a1:bO)(a2:Zd)(a3:Int)(a4:Int)(a5:Bool)(a6:Zf)(a7:Unit)(a8:Zj)(a9:Zi)(a10:Zh):Option ZR:=(fG fJ).1 (a0,a1,a2,a3,a4,a5,a6,a7,a8,a9,a10,())
def JU:aW:=aF G [.cell 4 135] 47 [pP 0,.val bu] [(0,fB 1 2 3),(1,.map bu cp),(2,.map bx .bool),(3,.row 74 40 bx)] 115 Bn [0,1,2,93] (.bH (IW kg))
theorem JV:hS JU:=(DT fJ).1
end Go.Proofs.YtgdcjlldafmomaaGreat
