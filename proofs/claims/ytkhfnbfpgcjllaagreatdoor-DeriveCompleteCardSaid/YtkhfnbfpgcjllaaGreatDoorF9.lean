/- part -/
import Derived.Test.YtkhfnbfpgcjllaaGreatDoorUF
noncomputable section
namespace Go.Proofs.YtkhfnbfpgcjllaaGreatDoor
open Go.Ax
def js(q0_:Zg)(q1_:Zp)(a0:hJ)(a1:aV)(a2:Zc)(a3:Int)(a4:Int)(a5:Bool)(a6:Ze)(a7:Unit)(a8:Zk)(a9:Zj)(a10:Zi):Option XU:=
 if(ep aR a0 a8)=true then(some (a1,a2,a3,a4,a5,a6,a7,a8,a9,aO aR fA a0 a8,a10)) else(aG (U:=aV×Zc×Int×Int×Bool×Ze×Unit×Zk×Zj×hJ×Int×Int×Int×Int×Bool×xw×Zi) (if(aO (.int .i64) .bool a0.1 (bA a6))=true then(Option.bind (lA q0_ q1_ a0 a1 a2 a3 a4 a5 a6 a7 a8 a9 a10) fun⟨a,b,c,d,e,f,g,h,i,j,k⟩=>some (.aS (a,b,c,d,e,f,g,h,i,a0,0,0,0,0,false,j,k))) else(Option.bind (d9 a0 a1 a2 a3 a4 a5 a6 a7 a8 a9 a10) fun⟨l,m,n,o,p,q,r,s,t,u,v⟩=>FK (.var rf (.cons (.val gH a1) (.cons (.val (.map aR (.slice 64 aN)) a2) (.cons (.val (.int .i64) a3) (.cons (.val (.int .i64) a4) (.cons (.val .bool a5) (.cons (.val (.map (.int .i64) .bool) a6) (.cons (.mp 1) (.cons (.mp 2) (.cons (.own 3) (.val .unit a7))))))))))) (.var rf (.cons (.val gH l) (.cons (.val (.map aR (.slice 64 aN)) m) (.cons (.val (.int .i64) n) (.cons (.val (.int .i64) o) (.cons (.val .bool p) (.cons (.val (.map (.int .i64) .bool) q) (.cons (.mp 1) (.cons (.mp 2) (.cons (.own 3) (.val .unit r))))))))))) (FK (.map aR fA a8) (.map aR fA s) (FK (.map bN .bool a9) (.map bN .bool t) (FK (.row 84 40 bN a10) (.row 84 40 bN u) (Option.bind (mU v a0.1 a0.2.1 a0.2.2.1 a3 a4) fun⟨y,x,w⟩=>Option.bind (lb w) fun y5=>Option.bind (gq a10 y5 a1 a2 a3 a4 a5 a6 a7 a8 a9) fun⟨_,z,aa,ab,ac,ad,ae,af,ag,ah,ai⟩=>some (.aS (z,aa,ab,ac,ad,ae,af,ag,ah,a0,0,0,0,0,false,(x,0,([]:Zo),y,()),ai)))))))) fun⟨ak,al,am,an,ao,ap,aq,aj,av,ar,_,_,_,_,_,au,aw⟩=>if List.length aj+1≤aF then(some (ak,al,am,an,ao,ap,aq,bK aR ar au aj,av,au,aw)) else none)
def akt:SS:=⟨75,115,[tP 0 0,tP 3 19,tP 4 20,tP 7 23],[(0,fB 1 2 92),(1,.map aR fA),(2,.map bN .bool),(19,bV aR),(20,.var fA (.cons (.cons vI (.cons vI (.cons vI (.cons .aM .nil)))) (.cons vI (.cons .aM (.cons vB .nil))))),(23,bV fA),(92,.row 84 40 bN)],[]⟩
def aku:SS:=⟨75,115,[tP 4 20],[(0,fB 1 2 93),(1,.map aR fA),(2,.map bN .bool),(20,bV fA),(93,.row 84 40 bN)],[]⟩
def Xp(q0_:Zg)(q1_:Zp):bH:=aI G [.cell 4 86] 52 [pP 0,.val aR] [(0,fB 1 2 3),(1,.map aR fA),(2,.map bN .bool),(3,.row 84 40 bN)] 115 aku [0,1,2,93] (.bZ (Ii (js q0_ q1_)))
theorem Xq(q0_:Zg)(q1_:Zp)(h0_:hS (AU q0_))(h1_:hS (vU q1_)):hS (Xp q0_ q1_):=
 cO ⟨[hE 6 [cB 0 [(0,0),(1,1),(2,2),(3,3)] [(65,47)]],hE 7 [⟨[1],[(0,0),(1,1),(2,2),(3,3)],[],[],[0,1,2,3]⟩,cA 2],hE 9 [⟨[3],[],[(18,80),(19,91)],[(0,0)],[]⟩,cB 4 [(0,3),(1,91),(2,80),(3,0),(4,1),(5,2)] [(32,81)]]],[(10,akt)],[],[],[],[]⟩ (hq (Xk q0_ q1_ h0_ h1_) (hq Xm (hq x17 (hq Wi (hq Ub hz))))) aJ Tryz.call52 Tryz.func52
def K7(a0:kU)(a1:np):Option (Bool×jx):=
 Option.bind (Qd a0 a1.2.2.1 a1.2.2.2.1) fun⟨a,b⟩=>Option.bind (α:=Bool) (if(!a)=true then(some true) else(Option.bind (uB a0 b) fun y2=>if(!y2)=true then(some true) else(if(decide ((0:Int)≤b.2.2.2.2.1))=true then(if 0≤b.2.2.2.2.1 then(if b.2.2.2.2.1<(List.length a0.1.2.1:Int) then(Option.bind (Uw a0 (nth bB a0.1.2.1 b.2.2.2.2.1)) fun y3=>some (!y3)) else none) else none) else(some false)))) fun v4=>if v4=true then(some (false,b)) else(some (true,b))
def akv:SS:=⟨42,82,[tP 4 20,(5,vB)],[(20,bV qS)],[]⟩
def c62:bH:=aI G [.cell 4 94,.tmp 5] 62 [.val lS,.val iK] [] 82 akv [] (.bZ (u2 K7))
theorem x62:hS c62:=
 cO (hR [hA 1 0,hD 2 39 [cA 1,cA 2]]) (hq Yw (hq x29 (hq x84 hz))) aJ Tryz.call62 Tryz.func62
def f32(a0:bF)(a1:np)(a2:Int):Option ZP:=
 Option.bind (K7 (a0,()) a1) fun⟨a,b⟩=>aG (U:=Int×bF×jx) (Option.bind (α:=Bool) (if(!a)=true then(some true) else(if(decide (a2<(0:Int)))=true then(some true) else(some (decide ((1048576:Int)<a2))))) fun v3=>if v3=true then(cN (some (0,120))) else(some (.aS (a2,a0,b)))) fun⟨e,d,c⟩=>if(decide ((0:Int)≤c.2.2.2.2.1))=true then(if 0≤c.2.2.2.2.1 then(if c.2.2.2.2.1<(List.length d.2.1:Int) then(some (aQ (e*(nth bB d.2.1 c.2.2.2.2.1).2.2.2.2.1),0)) else none) else none) else(some (e,0))
def akw:SS:=⟨42,82,[tI 2,tP 3 19,tP 9 25],[(19,bV eR),(25,bV qS)],[]⟩
def akx:SS:=⟨42,82,[tI 6,tI 7],[],[]⟩
def c32:bH:=aI G [.tmp 6,.tmp 7] 32 [.val eR,.val iK,vI] [] 82 akx [] (.bZ (u3 f32))
theorem x32:hS c32:=
 cO ⟨[hA 2 0,hD 3 28 []],[(5,akw)],[],[],[],[]⟩ (hq x62 hz) aJ Tryz.call32 Tryz.func32
def i7(a0:gQ)(a1:eU)(a2:aV)(a3:Zc)(a4:Int)(a5:Int)(a6:Bool)(a7:Ze)(a8:Unit)(a9:Zo)(a10:Zk)(a11:Zj)(a12:Zi):Option (Int×eU×Zag):=
 if 0≤a0.2.2.1 then(if a0.2.2.1<(List.length a1.2.2.1:Int) then(Option.bind (sC a0 a9) fun y1=>Option.bind (f32 a2.1.1 ([],[],(nth bG a1.2.2.1 a0.2.2.1).2.2.1,a0.2.2.2.1,()) y1) fun⟨a,_⟩=>some (a,a1,a2,a3,a4,a5,a6,a7,a8,a9,a10,a11,a12)) else none) else none
def akz:SS:=⟨34,74,[tI 5],[(0,bV bX),(1,.var (.aY .ptr) (pP 3)),(2,.var (.slice 48 bS) (.own 4)),(3,fB 5 6 7),(4,.row 39 48 bS),(5,.map aR fA),(6,.map bN .bool),(7,.row 84 40 bN)],[]⟩
def TY:bH:=aI G [.tmp 5] 244 [.val bB,pP 0,pP 1,pP 2] [(0,bV bX),(1,.var (.aY .ptr) (pP 3)),(2,.var (.slice 48 bS) (.own 4)),(3,fB 5 6 7),(4,.row 39 48 bS),(5,.map aR fA),(6,.map bN .bool),(7,.row 84 40 bN)] 74 akz [0,1,2,3,4,5,6,7] (.bZ (L0 i7))
theorem TZ:hS TY:=
 cO (hR [hE 2 [cA 0,cA 1]]) (hq Xi (hq x32 hz)) aJ Tryz.call244 Tryz.func244
def Pk(a0:Int)(a1:Int):Zm:=
 some (!decide (a0=a1))
def akA:SS:=⟨6,46,[(2,vB)],[],[]⟩
def Xr:bH:=aI G [.tmp 2] 41 [.dk (.int .i64),.dk (.int .i64)] [] 46 akA [] (.bZ (u2 Pk))
theorem Xs:hS Xr:=
 cO (hR []) hz aJ Tryz.call41 Tryz.func41
def Pm(a0:Int)(a1:Int):Zm:=
 some (decide (a0≤a1))
def akB:SS:=⟨6,46,[(2,vB)],[],[]⟩
def Xt:bH:=aI G [.tmp 2] 40 [.dk (.int .i64),.dk (.int .i64)] [] 46 akB [] (.bZ (u2 Pm))
theorem Xu:hS Xt:=
 cO (hR []) hz aJ Tryz.call40 Tryz.func40
def Pn(a0:Int)(a1:Int):Zm:=
 some (decide (a0<a1))
def akC:SS:=⟨6,46,[(2,vB)],[],[]⟩
def Xv:bH:=aI G [.tmp 2] 39 [.dk (.int .i64),.dk (.int .i64)] [] 46 akC [] (.bZ (u2 Pn))
theorem Xw:hS Xv:=
 cO (hR []) hz aJ Tryz.call39 Tryz.func39
def Po(a0:Int)(a1:Int):Zm:=
 some (decide (a0=a1))
def akD:SS:=⟨6,46,[(2,vB)],[],[]⟩
def Xx:bH:=aI G [.tmp 2] 38 [.dk (.int .i64),.dk (.int .i64)] [] 46 akD [] (.bZ (u2 Po))
theorem Xy:hS Xx:=
 cO (hR []) hz aJ Tryz.call38 Tryz.func38
def wc(a0:Int)(a1:Int)(a2:Int):Zm:=
 if bM (.int .i64) a0 (1:Int)=true then(Option.bind (Po a1 a2) fun y4=>some y4) else(if bM (.int .i64) a0 (2:Int)=true then(Option.bind (Pn a1 a2) fun y3=>some y3) else(if bM (.int .i64) a0 (3:Int)=true then(Option.bind (Pm a1 a2) fun y2=>some y2) else(if bM (.int .i64) a0 (4:Int)=true then(Option.bind (Pk a1 a2) fun y1=>some y1) else(some false))))
def akE:SS:=⟨26,66,[(6,vB)],[],[]⟩
def c18:bH:=aI G [.tmp 6] 18 [vI,vI,vI] [] 66 akE [] (.bZ (u3 wc))
theorem x18:hS c18:=
 cO (hR [hE 3 [⟨[0,1,2,3],[],[],[],[]⟩]]) (hq Xs (hq Xu (hq Xw (hq Xy hz)))) aJ Tryz.call18 Tryz.func18
def cZ:Nat→ZE×Int×Int×aV×Zc×Int×Int×Bool×Ze×Unit×Zo×Zk×Zj×Zi×eU→Option (dN Zag (Bool×Zag)):=aL fun aoP ⟨aw,av,au,az,a0,a1,a2,a3,a4,a5,ax,a6,a7,a8,ay⟩=>if(decide (au<av))=true then(if 0≤au then(if au<(List.length aw:Int) then(Option.bind (sC (nth cH aw au).2.1 ax) fun y4=>Option.bind (sC (nth cH aw au).2.2.1 ax) fun y5=>aG (U:=Int×Int×ZE×Int×Int×aV×Zc×Int×Int×Bool×Ze×Unit×Zo×Zk×Zj×Zi×eU×zT) (Option.bind (α:=Bool) (if(!decide ((nth cH aw au).2.1.2.2.1=(-1:Int)))=true then(some (!decide ((nth cH aw au).2.2.1.2.2.1=(-1:Int)))) else(some false)) fun v7=>if v7=true then(Option.bind (i7 (nth cH aw au).2.1 ay az a0 a1 a2 a3 a4 a5 ax a6 a7 a8) fun⟨m,a,b,c,d,e,f,g,h,i,j,k,l⟩=>Option.bind (i7 (nth cH aw au).2.2.1 a b c d e f g h i j k l) fun⟨n,z,o,p,q,r,s,t,u,v,w,x,y⟩=>some (.aS (m,n,aw,av,au,o,p,q,r,s,t,u,v,w,x,y,z,nth cH aw au))) else(some (.aS (y4,y5,aw,av,au,az,a0,a1,a2,a3,a4,a5,ax,a6,a7,a8,ay,nth cH aw au)))) fun⟨ab,ac,ao,ap,aq,ad,ae,af,ag,ah,ai,aj,ak,al,am,an,ar,aa⟩=>Option.bind (wc aa.1 ab ac) fun y10=>if(!y10)=true then(cN (some (false,ad,ae,af,ag,ah,ai,aj,ak,al,am,an))) else(aoP (ao,ap,aQ (aq+1),ad,ae,af,ag,ah,ai,aj,ak,al,am,an,ar))) else none) else none) else(some (.aS (az,a0,a1,a2,a3,a4,a5,ax,a6,a7,a8)))
def fE(a0:eU)(a1:aV)(a2:Zc)(a3:Int)(a4:Int)(a5:Bool)(a6:Ze)(a7:Unit)(a8:Zo)(a9:Zk)(a10:Zj)(a11:Zi):Option (Bool×Zag):=
 aG (U:=Zag) (cZ (Int.toNat (List.length a0.2.2.2.1:Int)+1) (a0.2.2.2.1,(List.length a0.2.2.2.1:Int),0,a1,a2,a3,a4,a5,a6,a7,a8,a9,a10,a11,a0)) fun⟨a,b,c,d,e,f,g,h,i,j,k⟩=>some (true,a,b,c,d,e,f,g,h,i,j,k)
def akG:SS:=⟨53,93,[tP 5 21,(7,.func 244 .nil (.cons (pP 20) (.cons (pP 19) (.cons (pP 21) .nil)))),tP 9 25,tI 10,tI 11,(14,.val (.slice 120 cH)),tI 15,tI 16],[(0,fB 2 3 4),(1,.row 39 48 bS),(2,.map aR fA),(3,.map bN .bool),(4,.row 84 40 bN),(19,.var (.aY .ptr) (pP 0)),(20,bV bX),(21,.var (.slice 48 bS) (.own 1)),(25,bV cH)],[]⟩
def akH:SS:=⟨53,93,[],[(0,fB 2 3 4),(1,.row 39 48 bS),(2,.map aR fA),(3,.map bN .bool),(4,.row 84 40 bN)],[]⟩
def akI:SS:=⟨53,93,[tP 5 21,(7,.func 244 .nil (.cons (pP 20) (.cons (pP 19) (.cons (pP 21) .nil)))),(14,.val (.slice 120 cH)),tI 15,tI 16],[(0,fB 2 3 4),(1,.row 39 48 bS),(2,.map aR fA),(3,.map bN .bool),(4,.row 84 40 bN),(19,.var (.aY .ptr) (pP 0)),(20,bV bX),(21,.var (.slice 48 bS) (.own 1))],[]⟩
def akJ:SS:=⟨53,93,[(6,vB)],[(0,fB 2 3 4),(1,.row 39 48 bS),(2,.map aR fA),(3,.map bN .bool),(4,.row 84 40 bN)],[]⟩
def T0:bH:=aI G [.tmp 6] 219 [pP 0,.val bX,.own 1] [(0,fB 2 3 4),(1,.row 39 48 bS),(2,.map aR fA),(3,.map bN .bool),(4,.row 84 40 bN)] 93 akJ [0,1,2,3,4] (.bZ (Ww fE))
theorem T1:hS T0:=
 cO ⟨[hE 5 [cA 0,cA 0],hD 6 37 [],hE 7 [cB 1 [(0,20),(1,19),(2,21),(3,0),(4,1),(5,2),(6,3),(7,4)] [],cB 1 [(0,20),(1,19),(2,21),(3,0),(4,1),(5,2),(6,3),(7,4)] []],hA 8 2],[(8,akG),(11,akH)],[],[(3,⟨akI,fun u2=>Int.toNat u2.2.1+1⟩)],[],[]⟩ (hq Xi (hq TZ (hq x18 hz))) aJ Tryz.call219 Tryz.func219
def im(q0_:Zg)(q1_:Zp):Nat→Int×Int×Int×eU×Int×aV×Zc×Int×Int×Bool×Ze×Unit×Zk×Zj×Ih×Zo×Zi→Option (dN (eU×Int×Zb) (Bool×eU×Int×Zb)):=aL fun rec6 ⟨ac,aa,z,ao,ap,ad,ae,af,ag,ah,ai,aj,ak,al,ab,an,am⟩=>if(decide (z<aa))=true then(Option.bind (q0_ ((ab.2.2.1,ac,z,()),ad,ae,af,ag,ah,ai,aj,ak,al,am,())) fun⟨b,c,d,e,f,g,h,i,j,a,k⟩=>if a.2.2.2.1=true then(if(List.length an+List.length [a.1])*48≤aF then(Option.bind (q1_ (ao,ap,an++[a.1],b,c,d,e,f,g,h,i,j,k,())) fun⟨l,m,n,o,p,q,r,s,t,u,v,w,x,y⟩=>if l=true then(cN (some (true,m,n,o,p,q,r,s,t,u,v,w,x,y))) else(if 0≤(aQ ((List.length x:Int) -(1:Int))) then(if(aQ ((List.length x:Int) -(1:Int)))≤(List.length x:Int) then(rec6 (ac,aa,aQ (z+1),m,n,o,p,q,r,s,t,u,v,w,ab,List.take ((Int.toNat (aQ ((List.length x:Int) -(1:Int)))) -0) x,y)) else none) else none)) else none) else(rec6 (ac,aa,aQ (z+1),ao,ap,b,c,d,e,f,g,h,i,j,ab,an,k))) else(some (.aS (ao,ap,ad,ae,af,ag,ah,ai,aj,ak,al,an,am)))
def fU(q0_:Zg)(q1_:Zp)(a0:eU)(a1:Int)(a2:Zo)(a3:aV)(a4:Zc)(a5:Int)(a6:Int)(a7:Bool)(a8:Ze)(a9:Unit)(a10:Zk)(a11:Zj)(a12:Zi):Option (Bool×eU×Int×Zb):=
 if(decide ((List.length a2:Int)=(List.length a0.2.2.1:Int)))=true then(Option.bind (fE a0 a3 a4 a5 a6 a7 a8 a9 a2 a10 a11 a12) fun⟨a,b,c,d,e,f,g,h,k,i,j,l⟩=>some (a,a0,a1,b,c,d,e,f,g,h,i,j,k,l)) else(if 0≤(List.length a2:Int) then(if(List.length a2:Int)<(List.length a0.2.2.1:Int) then(aG (U:=Int×Int×eU×Int×Zo×aV×Zc×Int×Int×Bool×Ze×Unit×Zk×Zj×Zi×Ih) (if(!decide ((nth bG a0.2.2.1 (List.length a2:Int)).2.2.2.1.2.2.1=(-1:Int)))=true then(if 0≤(nth bG a0.2.2.1 (List.length a2:Int)).2.2.2.1.2.2.1 then(if(nth bG a0.2.2.1 (List.length a2:Int)).2.2.2.1.2.2.1<(List.length a2:Int) then(if 0≤(nth bG a0.2.2.1 (List.length a2:Int)).2.2.2.1.2.2.2.1 then(if(nth bG a0.2.2.1 (List.length a2:Int)).2.2.2.1.2.2.2.1<(List.length (nth bS a2 (nth bG a0.2.2.1 (List.length a2:Int)).2.2.2.1.2.2.1).2.2.2.1:Int) then(some (.aS (nth (.int .i64) (nth bS a2 (nth bG a0.2.2.1 (List.length a2:Int)).2.2.2.1.2.2.1).2.2.2.1 (nth bG a0.2.2.1 (List.length a2:Int)).2.2.2.1.2.2.2.1,4,a0,a1,a2,a3,a4,a5,a6,a7,a8,a9,a10,a11,a12,nth bG a0.2.2.1 (List.length a2:Int)))) else none) else none) else none) else none) else(some (.aS (a1,4,a0,a1,a2,a3,a4,a5,a6,a7,a8,a9,a10,a11,a12,nth bG a0.2.2.1 (List.length a2:Int))))) fun⟨o,ab,p,q,r,s,t,u,v,w,n,x,y,z,aa,m⟩=>aG (U:=Int×Int×eU×Int×Zo×aV×Zc×Int×Int×Bool×Ze×Unit×Zk×Zj×Zi×Ih) (if(aO (.int .i64) .bool m.2.2.1 (bA n))=true then(some (.aS (o,1,p,q,r,s,t,u,v,w,n,x,y,z,aa,m))) else(some (.aS (o,ab,p,q,r,s,t,u,v,w,n,x,y,z,aa,m)))) fun⟨ad,ac,ae,af,aq,ag,ah,ai,aj,ak,al,am,an,ao,ar,ap⟩=>aG (U:=eU×Int×Zb) (im q0_ q1_ (Int.toNat ac+1) (ad,ac,0,ae,af,ag,ah,ai,aj,ak,al,am,an,ao,ap,aq,ar)) fun⟨au,av,aw,ax,ay,az,ba,bb,bc,bd,be,bf,bg⟩=>some (false,au,av,aw,ax,ay,az,ba,bb,bc,bd,be,bf,bg)) else none) else none)
def abk:SS:=⟨77,117,[tP 0 0,tP 2 2,tP 4 4,tP 6 22,tI 7,tI 8],[(0,.var (.slice 48 bS) (.own 5)),(1,bV bX),(2,.var (.aY .ptr) (pP 6)),(3,bI),(4,.var (.aY .func) (.func 218 .nil (.cons (pP 0) (.cons (pP 1) (.cons (pP 2) (.cons (pP 3) (.cons (pP 4) .nil))))))),(5,.row 39 48 bS),(6,fB 7 8 9),(7,.map aR fA),(8,.map bN .bool),(9,.row 84 40 bN),(22,bV bG)],[]⟩
def akK:SS:=⟨77,117,[],[(0,.var (.slice 48 bS) (.own 97)),(1,bV bX),(2,.var (.aY .ptr) (pP 6)),(3,bI),(4,.var (.aY .func) (.func 218 .nil (.cons (pP 0) (.cons (pP 1) (.cons (pP 2) (.cons (pP 3) (.cons (pP 4) .nil))))))),(6,fB 7 8 98),(7,.map aR fA),(8,.map bN .bool),(97,.row 39 48 bS),(98,.row 84 40 bN)],[]⟩
def akL:SS:=⟨77,117,[tP 0 0,tP 2 2,tP 4 4,tP 6 22,tI 7,tI 51,tI 52],[(0,.var (.slice 48 bS) (.own 95)),(1,bV bX),(2,.var (.aY .ptr) (pP 6)),(3,bI),(4,.var (.aY .func) (.func 218 .nil (.cons (pP 0) (.cons (pP 1) (.cons (pP 2) (.cons (pP 3) (.cons (pP 4) .nil))))))),(6,fB 7 8 96),(7,.map aR fA),(8,.map bN .bool),(22,bV bG),(95,.row 39 48 bS),(96,.row 84 40 bN)],[]⟩
def akM:SS:=⟨77,117,[(5,vB)],[(0,.var (.slice 48 bS) (.own 99)),(1,bV bX),(2,.var (.aY .ptr) (pP 6)),(3,bI),(4,.var (.aY .func) (.func 218 .nil (.cons (pP 0) (.cons (pP 1) (.cons (pP 2) (.cons (pP 3) (.cons (pP 4) .nil))))))),(6,fB 7 8 100),(7,.map aR fA),(8,.map bN .bool),(99,.row 39 48 bS),(100,.row 84 40 bN)],[]⟩
def T3(q0_:Zg)(q1_:Zp):bH:=aI G [.tmp 5] 218 [pP 0,pP 1,pP 2,pP 3,pP 4] [(0,.var (.slice 48 bS) (.own 5)),(1,bV bX),(2,.var (.aY .ptr) (pP 6)),(3,bI),(4,.var (.aY .func) (.func 218 .nil (.cons (pP 0) (.cons (pP 1) (.cons (pP 2) (.cons (pP 3) (.cons (pP 4) .nil))))))),(5,.row 39 48 bS),(6,fB 7 8 9),(7,.map aR fA),(8,.map bN .bool),(9,.row 84 40 bN)] 117 akM [0,1,2,3,4,6,7,8,99,100] (.bZ (L0 (fU q0_ q1_)))
theorem T4(q0_:Zg)(q1_:Zp)(h0_:hS (AU q0_))(h1_:hS (vU q1_)):hS (T3 q0_ q1_):=
 cO ⟨[hE 2 [cB 0 [(0,6),(1,5),(2,7),(3,8),(4,9)] []],hE 12 [cB 1 [(0,6),(1,7),(2,8),(3,96)] [(93,77)]],hE 15 [cB 2 [(0,0),(1,1),(2,2),(3,3),(4,4),(5,84),(6,6),(7,7),(8,8),(9,77)] [(99,86),(100,93)]],(17,⟨[],[],[],none,[],[],[.tM 0 [] 94]⟩)],[(7,abk),(9,abk),(19,akK)],[],[(10,⟨akL,fun u5=>Int.toNat u5.2.1+1⟩)],[],[]⟩ (hq T1 (hq h0_ (hq h1_ hz))) aJ Tryz.call218 Tryz.func218
def du:Nat→Zg×Zp:=@Nat.rec (fun _=>(hJ×aV×(Zc)×Int×Int×Bool×(Ze)×Unit×(Zk)×(Zj)×(Zi)×Unit→Option XU)×(eU×Int×(Zo)×aV×(Zc)×Int×Int×Bool×(Ze)×Unit×(Zk)×(Zj)×(Zi)×Unit→Option (Bool×eU×Int×Zb))) (fun _=>none,fun _=>none) (fun _ ih=>(fun d=>js ih.1 ih.2 d.1 d.2.1 d.2.2.1 d.2.2.2.1 d.2.2.2.2.1 d.2.2.2.2.2.1 d.2.2.2.2.2.2.1 d.2.2.2.2.2.2.2.1 d.2.2.2.2.2.2.2.2.1 d.2.2.2.2.2.2.2.2.2.1 d.2.2.2.2.2.2.2.2.2.2.1,fun d=>fU ih.1 ih.2 d.1 d.2.1 d.2.2.1 d.2.2.2.1 d.2.2.2.2.1 d.2.2.2.2.2.1 d.2.2.2.2.2.2.1 d.2.2.2.2.2.2.2.1 d.2.2.2.2.2.2.2.2.1 d.2.2.2.2.2.2.2.2.2.1 d.2.2.2.2.2.2.2.2.2.2.1 d.2.2.2.2.2.2.2.2.2.2.2.1 d.2.2.2.2.2.2.2.2.2.2.2.2.1))
theorem Mq(n:Nat):hS (AU ((du n).1))∧hS (vU ((du n).2)):=by
 induction n with
 |zero=>exact⟨bH.aa1,bH.aa1⟩
 |succ n ih=>exact⟨Xq _ _ ih.1 ih.2,T4 _ _ ih.1 ih.2⟩
def iD(a0:hJ)(a1:aV)(a2:Zc)(a3:Int)(a4:Int)(a5:Bool)(a6:Ze)(a7:Unit)(a8:Zk)(a9:Zj)(a10:Zi):Option XU:=(du dA).1 (a0,a1,a2,a3,a4,a5,a6,a7,a8,a9,a10,())
def T5:bH:=aI G [.cell 4 86] 52 [pP 0,.val aR] [(0,fB 1 2 3),(1,.map aR fA),(2,.map bN .bool),(3,.row 84 40 bN)] 115 Jm [0,1,2,93] (.bZ (Ii iD))
theorem T6:hS T5:=(Mq dA).1
end Go.Proofs.YtkhfnbfpgcjllaaGreatDoor
