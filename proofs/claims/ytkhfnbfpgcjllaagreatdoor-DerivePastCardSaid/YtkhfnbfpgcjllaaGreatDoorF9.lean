/- part -/
import Derived.Test.YtkhfnbfpgcjllaaGreatDoorUF
noncomputable section
namespace Go.Proofs.YtkhfnbfpgcjllaaGreatDoor
open Go.Ax
def jc(q0_:Zg)(q1_:Zo)(a0:iw)(a1:aU)(a2:Zc)(a3:Int)(a4:Int)(a5:Bool)(a6:Ze)(a7:Unit)(a8:Zk)(a9:Zi)(a10:Zh):Option ZZ:=
 if(ek aQ a0 a8)=true then(some (a1,a2,a3,a4,a5,a6,a7,a8,a9,aO aQ fq a0 a8,a10)) else(aI (U:=aU×Zc×Int×Int×Bool×Ze×Unit×Zk×Zi×iw×Int×Int×Int×Int×Bool×xi×Zh) (if(aO (.int .i64) .bool a0.1 (bC a6))=true then(Option.bind (lk q0_ q1_ a0 a1 a2 a3 a4 a5 a6 a7 a8 a9 a10) fun⟨a,b,c,d,e,f,g,h,i,j,k⟩=>some (.aX (a,b,c,d,e,f,g,h,i,a0,0,0,0,0,false,j,k))) else(Option.bind (d6 a0 a1 a2 a3 a4 a5 a6 a7 a8 a9 a10) fun⟨l,m,n,o,p,q,r,s,t,u,v⟩=>FD (.var qQ (.cons (.val gA a1) (.cons (.val (.map aQ (.slice 64 aN)) a2) (.cons (.val (.int .i64) a3) (.cons (.val (.int .i64) a4) (.cons (.val .bool a5) (.cons (.val (.map (.int .i64) .bool) a6) (.cons (.mp 1) (.cons (.mp 2) (.cons (.own 3) (.val .unit a7))))))))))) (.var qQ (.cons (.val gA l) (.cons (.val (.map aQ (.slice 64 aN)) m) (.cons (.val (.int .i64) n) (.cons (.val (.int .i64) o) (.cons (.val .bool p) (.cons (.val (.map (.int .i64) .bool) q) (.cons (.mp 1) (.cons (.mp 2) (.cons (.own 3) (.val .unit r))))))))))) (FD (.map aQ fq a8) (.map aQ fq s) (FD (.map bP .bool a9) (.map bP .bool t) (FD (.row 84 40 bP a10) (.row 84 40 bP u) (Option.bind (mM v a0.1 a0.2.1 a0.2.2.1 a3 a4) fun⟨y,x,w⟩=>Option.bind (kX w) fun y5=>Option.bind (gj a10 y5 a1 a2 a3 a4 a5 a6 a7 a8 a9) fun⟨_,z,aa,ab,ac,ad,ae,af,ag,ah,ai⟩=>some (.aX (z,aa,ab,ac,ad,ae,af,ag,ah,a0,0,0,0,0,false,(x,0,([]:Zp),y,()),ai)))))))) fun⟨ak,al,am,an,ao,ap,aq,aj,av,ar,_,_,_,_,_,au,aw⟩=>if List.length aj+1≤aF then(some (ak,al,am,an,ao,ap,aq,bJ aQ ar au aj,av,au,aw)) else none)
def akn:SS:=⟨75,115,[tP 0 0,tP 3 19,tP 4 20,tP 7 23],[(0,fB 1 2 92),(1,.map aQ fq),(2,.map bP .bool),(19,bV aQ),(20,.var fq (.cons (.cons vI (.cons vI (.cons vI (.cons .aM .nil)))) (.cons vI (.cons .aM (.cons vB .nil))))),(23,bV fq),(92,.row 84 40 bP)],[]⟩
def ako:SS:=⟨75,115,[tP 4 20],[(0,fB 1 2 93),(1,.map aQ fq),(2,.map bP .bool),(20,bV fq),(93,.row 84 40 bP)],[]⟩
def Xk(q0_:Zg)(q1_:Zo):bG:=aG G [.cell 4 86] 52 [pP 0,.val aQ] [(0,fB 1 2 3),(1,.map aQ fq),(2,.map bP .bool),(3,.row 84 40 bP)] 115 ako [0,1,2,93] (.bY (Ib (jc q0_ q1_)))
theorem Xl(q0_:Zg)(q1_:Zo)(h0_:hS (AM q0_))(h1_:hS (vH q1_)):hS (Xk q0_ q1_):=
 cO ⟨[hE 6 [cB 0 [(0,0),(1,1),(2,2),(3,3)] [(65,47)]],hE 7 [⟨[1],[(0,0),(1,1),(2,2),(3,3)],[],[],[0,1,2,3]⟩,cA 2],hE 9 [⟨[3],[],[(18,80),(19,91)],[(0,0)],[]⟩,cB 4 [(0,3),(1,91),(2,80),(3,0),(4,1),(5,2)] [(32,81)]]],[(10,akn)],[],[],[],[]⟩ (hq (Xf q0_ q1_ h0_ h1_) (hq Xh (hq x17 (hq Wb (hq T4 hz))))) aJ Tryz.call52 Tryz.func52
def K3(a0:kN)(a1:mZ):Option (Bool×ji):=
 Option.bind (P8 a0 a1.2.2.1 a1.2.2.2.1) fun⟨a,b⟩=>Option.bind (α:=Bool) (if(!a)=true then(some true) else(Option.bind (uj a0 b) fun y2=>if(!y2)=true then(some true) else(if(decide ((0:Int)≤b.2.2.2.2.1))=true then(if 0≤b.2.2.2.2.1 then(if b.2.2.2.2.1<(List.length a0.1.2.1:Int) then(Option.bind (Up a0 (nth aZ a0.1.2.1 b.2.2.2.2.1)) fun y3=>some (!y3)) else none) else none) else(some false)))) fun v4=>if v4=true then(some (false,b)) else(some (true,b))
def akp:SS:=⟨42,82,[tP 4 20,(5,vB)],[(20,bV qI)],[]⟩
def c62:bG:=aG G [.cell 4 94,.tmp 5] 62 [.val lK,.val iE] [] 82 akp [] (.bY (u2 K3))
theorem x62:hS c62:=
 cO (hR [hA 1 0,hD 2 39 [cA 1,cA 2]]) (hq Yr (hq x29 (hq x84 hz))) aJ Tryz.call62 Tryz.func62
def f32(a0:bD)(a1:mZ)(a2:Int):Option ZP:=
 Option.bind (K3 (a0,()) a1) fun⟨a,b⟩=>aI (U:=Int×bD×ji) (Option.bind (α:=Bool) (if(!a)=true then(some true) else(if(decide (a2<(0:Int)))=true then(some true) else(some (decide ((1048576:Int)<a2))))) fun v3=>if v3=true then(cU (some (0,120))) else(some (.aX (a2,a0,b)))) fun⟨e,d,c⟩=>if(decide ((0:Int)≤c.2.2.2.2.1))=true then(if 0≤c.2.2.2.2.1 then(if c.2.2.2.2.1<(List.length d.2.1:Int) then(some (aV (e*(nth aZ d.2.1 c.2.2.2.2.1).2.2.2.2.1),0)) else none) else none) else(some (e,0))
def akq:SS:=⟨42,82,[tI 2,tP 3 19,tP 9 25],[(19,bV eN),(25,bV qI)],[]⟩
def akr:SS:=⟨42,82,[tI 6,tI 7],[],[]⟩
def c32:bG:=aG G [.tmp 6,.tmp 7] 32 [.val eN,.val iE,vI] [] 82 akr [] (.bY (u3 f32))
theorem x32:hS c32:=
 cO ⟨[hA 2 0,hD 3 28 []],[(5,akq)],[],[],[],[]⟩ (hq x62 hz) aJ Tryz.call32 Tryz.func32
def iV(a0:gJ)(a1:eQ)(a2:aU)(a3:Zc)(a4:Int)(a5:Int)(a6:Bool)(a7:Ze)(a8:Unit)(a9:Zp)(a10:Zk)(a11:Zi)(a12:Zh):Option (Int×eQ×Zac):=
 if 0≤a0.2.2.1 then(if a0.2.2.1<(List.length a1.2.2.1:Int) then(Option.bind (sj a0 a9) fun y1=>Option.bind (f32 a2.1.1 ([],[],(nth bE a1.2.2.1 a0.2.2.1).2.2.1,a0.2.2.2.1,()) y1) fun⟨a,_⟩=>some (a,a1,a2,a3,a4,a5,a6,a7,a8,a9,a10,a11,a12)) else none) else none
def akt:SS:=⟨34,74,[tI 5],[(0,bV bW),(1,.var (.aW .ptr) (pP 3)),(2,.var (.slice 48 bR) (.own 4)),(3,fB 5 6 7),(4,.row 39 48 bR),(5,.map aQ fq),(6,.map bP .bool),(7,.row 84 40 bP)],[]⟩
def TS:bG:=aG G [.tmp 5] 244 [.val aZ,pP 0,pP 1,pP 2] [(0,bV bW),(1,.var (.aW .ptr) (pP 3)),(2,.var (.slice 48 bR) (.own 4)),(3,fB 5 6 7),(4,.row 39 48 bR),(5,.map aQ fq),(6,.map bP .bool),(7,.row 84 40 bP)] 74 akt [0,1,2,3,4,5,6,7] (.bY (LU iV))
theorem TT:hS TS:=
 cO (hR [hE 2 [cA 0,cA 1]]) (hq Xd (hq x32 hz)) aJ Tryz.call244 Tryz.func244
def Pf(a0:Int)(a1:Int):Zm:=
 some (!decide (a0=a1))
def aku:SS:=⟨6,46,[(2,vB)],[],[]⟩
def Xm:bG:=aG G [.tmp 2] 41 [.dk (.int .i64),.dk (.int .i64)] [] 46 aku [] (.bY (u2 Pf))
theorem Xn:hS Xm:=
 cO (hR []) hz aJ Tryz.call41 Tryz.func41
def Pg(a0:Int)(a1:Int):Zm:=
 some (decide (a0≤a1))
def akv:SS:=⟨6,46,[(2,vB)],[],[]⟩
def Xo:bG:=aG G [.tmp 2] 40 [.dk (.int .i64),.dk (.int .i64)] [] 46 akv [] (.bY (u2 Pg))
theorem Xp:hS Xo:=
 cO (hR []) hz aJ Tryz.call40 Tryz.func40
def Ph(a0:Int)(a1:Int):Zm:=
 some (decide (a0<a1))
def akw:SS:=⟨6,46,[(2,vB)],[],[]⟩
def Xq:bG:=aG G [.tmp 2] 39 [.dk (.int .i64),.dk (.int .i64)] [] 46 akw [] (.bY (u2 Ph))
theorem Xr:hS Xq:=
 cO (hR []) hz aJ Tryz.call39 Tryz.func39
def Pj(a0:Int)(a1:Int):Zm:=
 some (decide (a0=a1))
def akx:SS:=⟨6,46,[(2,vB)],[],[]⟩
def Xs:bG:=aG G [.tmp 2] 38 [.dk (.int .i64),.dk (.int .i64)] [] 46 akx [] (.bY (u2 Pj))
theorem Xt:hS Xs:=
 cO (hR []) hz aJ Tryz.call38 Tryz.func38
def vP(a0:Int)(a1:Int)(a2:Int):Zm:=
 if bN (.int .i64) a0 (1:Int)=true then(Option.bind (Pj a1 a2) fun y4=>some y4) else(if bN (.int .i64) a0 (2:Int)=true then(Option.bind (Ph a1 a2) fun y3=>some y3) else(if bN (.int .i64) a0 (3:Int)=true then(Option.bind (Pg a1 a2) fun y2=>some y2) else(if bN (.int .i64) a0 (4:Int)=true then(Option.bind (Pf a1 a2) fun y1=>some y1) else(some false))))
def aky:SS:=⟨26,66,[(6,vB)],[],[]⟩
def c18:bG:=aG G [.tmp 6] 18 [vI,vI,vI] [] 66 aky [] (.bY (u3 vP))
theorem x18:hS c18:=
 cO (hR [hE 3 [⟨[0,1,2,3],[],[],[],[]⟩]]) (hq Xn (hq Xp (hq Xr (hq Xt hz)))) aJ Tryz.call18 Tryz.func18
def cY:Nat→ZC×Int×Int×aU×Zc×Int×Int×Bool×Ze×Unit×Zp×Zk×Zi×Zh×eQ→Option (dR Zac (Bool×Zac)):=aL fun aoK ⟨aw,av,au,az,a0,a1,a2,a3,a4,a5,ax,a6,a7,a8,ay⟩=>if(decide (au<av))=true then(if 0≤au then(if au<(List.length aw:Int) then(Option.bind (sj (nth cF aw au).2.1 ax) fun y4=>Option.bind (sj (nth cF aw au).2.2.1 ax) fun y5=>aI (U:=Int×Int×ZC×Int×Int×aU×Zc×Int×Int×Bool×Ze×Unit×Zp×Zk×Zi×Zh×eQ×zL) (Option.bind (α:=Bool) (if(!decide ((nth cF aw au).2.1.2.2.1=(-1:Int)))=true then(some (!decide ((nth cF aw au).2.2.1.2.2.1=(-1:Int)))) else(some false)) fun v7=>if v7=true then(Option.bind (iV (nth cF aw au).2.1 ay az a0 a1 a2 a3 a4 a5 ax a6 a7 a8) fun⟨m,a,b,c,d,e,f,g,h,i,j,k,l⟩=>Option.bind (iV (nth cF aw au).2.2.1 a b c d e f g h i j k l) fun⟨n,z,o,p,q,r,s,t,u,v,w,x,y⟩=>some (.aX (m,n,aw,av,au,o,p,q,r,s,t,u,v,w,x,y,z,nth cF aw au))) else(some (.aX (y4,y5,aw,av,au,az,a0,a1,a2,a3,a4,a5,ax,a6,a7,a8,ay,nth cF aw au)))) fun⟨ab,ac,ao,ap,aq,ad,ae,af,ag,ah,ai,aj,ak,al,am,an,ar,aa⟩=>Option.bind (vP aa.1 ab ac) fun y10=>if(!y10)=true then(cU (some (false,ad,ae,af,ag,ah,ai,aj,ak,al,am,an))) else(aoK (ao,ap,aV (aq+1),ad,ae,af,ag,ah,ai,aj,ak,al,am,an,ar))) else none) else none) else(some (.aX (az,a0,a1,a2,a3,a4,a5,ax,a6,a7,a8)))
def fw(a0:eQ)(a1:aU)(a2:Zc)(a3:Int)(a4:Int)(a5:Bool)(a6:Ze)(a7:Unit)(a8:Zp)(a9:Zk)(a10:Zi)(a11:Zh):Option (Bool×Zac):=
 aI (U:=Zac) (cY (Int.toNat (List.length a0.2.2.2.1:Int)+1) (a0.2.2.2.1,(List.length a0.2.2.2.1:Int),0,a1,a2,a3,a4,a5,a6,a7,a8,a9,a10,a11,a0)) fun⟨a,b,c,d,e,f,g,h,i,j,k⟩=>some (true,a,b,c,d,e,f,g,h,i,j,k)
def akA:SS:=⟨53,93,[tP 5 21,(7,.func 244 .nil (.cons (pP 20) (.cons (pP 19) (.cons (pP 21) .nil)))),tP 9 25,tI 10,tI 11,(14,.val (.slice 120 cF)),tI 15,tI 16],[(0,fB 2 3 4),(1,.row 39 48 bR),(2,.map aQ fq),(3,.map bP .bool),(4,.row 84 40 bP),(19,.var (.aW .ptr) (pP 0)),(20,bV bW),(21,.var (.slice 48 bR) (.own 1)),(25,bV cF)],[]⟩
def akB:SS:=⟨53,93,[],[(0,fB 2 3 4),(1,.row 39 48 bR),(2,.map aQ fq),(3,.map bP .bool),(4,.row 84 40 bP)],[]⟩
def akC:SS:=⟨53,93,[tP 5 21,(7,.func 244 .nil (.cons (pP 20) (.cons (pP 19) (.cons (pP 21) .nil)))),(14,.val (.slice 120 cF)),tI 15,tI 16],[(0,fB 2 3 4),(1,.row 39 48 bR),(2,.map aQ fq),(3,.map bP .bool),(4,.row 84 40 bP),(19,.var (.aW .ptr) (pP 0)),(20,bV bW),(21,.var (.slice 48 bR) (.own 1))],[]⟩
def akD:SS:=⟨53,93,[(6,vB)],[(0,fB 2 3 4),(1,.row 39 48 bR),(2,.map aQ fq),(3,.map bP .bool),(4,.row 84 40 bP)],[]⟩
def TU:bG:=aG G [.tmp 6] 219 [pP 0,.val bW,.own 1] [(0,fB 2 3 4),(1,.row 39 48 bR),(2,.map aQ fq),(3,.map bP .bool),(4,.row 84 40 bP)] 93 akD [0,1,2,3,4] (.bY (Wr fw))
theorem TV:hS TU:=
 cO ⟨[hE 5 [cA 0,cA 0],hD 6 37 [],hE 7 [cB 1 [(0,20),(1,19),(2,21),(3,0),(4,1),(5,2),(6,3),(7,4)] [],cB 1 [(0,20),(1,19),(2,21),(3,0),(4,1),(5,2),(6,3),(7,4)] []],hA 8 2],[(8,akA),(11,akB)],[],[(3,⟨akC,fun u2=>Int.toNat u2.2.1+1⟩)],[],[]⟩ (hq Xd (hq TT (hq x18 hz))) aJ Tryz.call219 Tryz.func219
def hJ(q0_:Zg)(q1_:Zo):Nat→Int×Int×Int×eQ×Int×aU×Zc×Int×Int×Bool×Ze×Unit×Zk×Zi×Ia×Zp×Zh→Option (dR (eQ×Int×Zb) (Bool×eQ×Int×Zb)):=aL fun rec6 ⟨ac,aa,z,ao,ap,ad,ae,af,ag,ah,ai,aj,ak,al,ab,an,am⟩=>if(decide (z<aa))=true then(Option.bind (q0_ ((ab.2.2.1,ac,z,()),ad,ae,af,ag,ah,ai,aj,ak,al,am,())) fun⟨b,c,d,e,f,g,h,i,j,a,k⟩=>if a.2.2.2.1=true then(if(List.length an+List.length [a.1])*48≤aF then(Option.bind (q1_ (ao,ap,an++[a.1],b,c,d,e,f,g,h,i,j,k,())) fun⟨l,m,n,o,p,q,r,s,t,u,v,w,x,y⟩=>if l=true then(cU (some (true,m,n,o,p,q,r,s,t,u,v,w,x,y))) else(if 0≤(aV ((List.length x:Int) -(1:Int))) then(if(aV ((List.length x:Int) -(1:Int)))≤(List.length x:Int) then(rec6 (ac,aa,aV (z+1),m,n,o,p,q,r,s,t,u,v,w,ab,List.take ((Int.toNat (aV ((List.length x:Int) -(1:Int)))) -0) x,y)) else none) else none)) else none) else(rec6 (ac,aa,aV (z+1),ao,ap,b,c,d,e,f,g,h,i,j,ab,an,k))) else(some (.aX (ao,ap,ad,ae,af,ag,ah,ai,aj,ak,al,an,am)))
def fO(q0_:Zg)(q1_:Zo)(a0:eQ)(a1:Int)(a2:Zp)(a3:aU)(a4:Zc)(a5:Int)(a6:Int)(a7:Bool)(a8:Ze)(a9:Unit)(a10:Zk)(a11:Zi)(a12:Zh):Option (Bool×eQ×Int×Zb):=
 if(decide ((List.length a2:Int)=(List.length a0.2.2.1:Int)))=true then(Option.bind (fw a0 a3 a4 a5 a6 a7 a8 a9 a2 a10 a11 a12) fun⟨a,b,c,d,e,f,g,h,k,i,j,l⟩=>some (a,a0,a1,b,c,d,e,f,g,h,i,j,k,l)) else(if 0≤(List.length a2:Int) then(if(List.length a2:Int)<(List.length a0.2.2.1:Int) then(aI (U:=Int×Int×eQ×Int×Zp×aU×Zc×Int×Int×Bool×Ze×Unit×Zk×Zi×Zh×Ia) (if(!decide ((nth bE a0.2.2.1 (List.length a2:Int)).2.2.2.1.2.2.1=(-1:Int)))=true then(if 0≤(nth bE a0.2.2.1 (List.length a2:Int)).2.2.2.1.2.2.1 then(if(nth bE a0.2.2.1 (List.length a2:Int)).2.2.2.1.2.2.1<(List.length a2:Int) then(if 0≤(nth bE a0.2.2.1 (List.length a2:Int)).2.2.2.1.2.2.2.1 then(if(nth bE a0.2.2.1 (List.length a2:Int)).2.2.2.1.2.2.2.1<(List.length (nth bR a2 (nth bE a0.2.2.1 (List.length a2:Int)).2.2.2.1.2.2.1).2.2.2.1:Int) then(some (.aX (nth (.int .i64) (nth bR a2 (nth bE a0.2.2.1 (List.length a2:Int)).2.2.2.1.2.2.1).2.2.2.1 (nth bE a0.2.2.1 (List.length a2:Int)).2.2.2.1.2.2.2.1,4,a0,a1,a2,a3,a4,a5,a6,a7,a8,a9,a10,a11,a12,nth bE a0.2.2.1 (List.length a2:Int)))) else none) else none) else none) else none) else(some (.aX (a1,4,a0,a1,a2,a3,a4,a5,a6,a7,a8,a9,a10,a11,a12,nth bE a0.2.2.1 (List.length a2:Int))))) fun⟨o,ab,p,q,r,s,t,u,v,w,n,x,y,z,aa,m⟩=>aI (U:=Int×Int×eQ×Int×Zp×aU×Zc×Int×Int×Bool×Ze×Unit×Zk×Zi×Zh×Ia) (if(aO (.int .i64) .bool m.2.2.1 (bC n))=true then(some (.aX (o,1,p,q,r,s,t,u,v,w,n,x,y,z,aa,m))) else(some (.aX (o,ab,p,q,r,s,t,u,v,w,n,x,y,z,aa,m)))) fun⟨ad,ac,ae,af,aq,ag,ah,ai,aj,ak,al,am,an,ao,ar,ap⟩=>aI (U:=eQ×Int×Zb) (hJ q0_ q1_ (Int.toNat ac+1) (ad,ac,0,ae,af,ag,ah,ai,aj,ak,al,am,an,ao,ap,aq,ar)) fun⟨au,av,aw,ax,ay,az,ba,bb,bc,bd,be,bf,bg⟩=>some (false,au,av,aw,ax,ay,az,ba,bb,bc,bd,be,bf,bg)) else none) else none)
def abf:SS:=⟨77,117,[tP 0 0,tP 2 2,tP 4 4,tP 6 22,tI 7,tI 8],[(0,.var (.slice 48 bR) (.own 5)),(1,bV bW),(2,.var (.aW .ptr) (pP 6)),(3,bI),(4,.var (.aW .func) (.func 218 .nil (.cons (pP 0) (.cons (pP 1) (.cons (pP 2) (.cons (pP 3) (.cons (pP 4) .nil))))))),(5,.row 39 48 bR),(6,fB 7 8 9),(7,.map aQ fq),(8,.map bP .bool),(9,.row 84 40 bP),(22,bV bE)],[]⟩
def akE:SS:=⟨77,117,[],[(0,.var (.slice 48 bR) (.own 97)),(1,bV bW),(2,.var (.aW .ptr) (pP 6)),(3,bI),(4,.var (.aW .func) (.func 218 .nil (.cons (pP 0) (.cons (pP 1) (.cons (pP 2) (.cons (pP 3) (.cons (pP 4) .nil))))))),(6,fB 7 8 98),(7,.map aQ fq),(8,.map bP .bool),(97,.row 39 48 bR),(98,.row 84 40 bP)],[]⟩
def akF:SS:=⟨77,117,[tP 0 0,tP 2 2,tP 4 4,tP 6 22,tI 7,tI 51,tI 52],[(0,.var (.slice 48 bR) (.own 95)),(1,bV bW),(2,.var (.aW .ptr) (pP 6)),(3,bI),(4,.var (.aW .func) (.func 218 .nil (.cons (pP 0) (.cons (pP 1) (.cons (pP 2) (.cons (pP 3) (.cons (pP 4) .nil))))))),(6,fB 7 8 96),(7,.map aQ fq),(8,.map bP .bool),(22,bV bE),(95,.row 39 48 bR),(96,.row 84 40 bP)],[]⟩
def akG:SS:=⟨77,117,[(5,vB)],[(0,.var (.slice 48 bR) (.own 99)),(1,bV bW),(2,.var (.aW .ptr) (pP 6)),(3,bI),(4,.var (.aW .func) (.func 218 .nil (.cons (pP 0) (.cons (pP 1) (.cons (pP 2) (.cons (pP 3) (.cons (pP 4) .nil))))))),(6,fB 7 8 100),(7,.map aQ fq),(8,.map bP .bool),(99,.row 39 48 bR),(100,.row 84 40 bP)],[]⟩
def TW(q0_:Zg)(q1_:Zo):bG:=aG G [.tmp 5] 218 [pP 0,pP 1,pP 2,pP 3,pP 4] [(0,.var (.slice 48 bR) (.own 5)),(1,bV bW),(2,.var (.aW .ptr) (pP 6)),(3,bI),(4,.var (.aW .func) (.func 218 .nil (.cons (pP 0) (.cons (pP 1) (.cons (pP 2) (.cons (pP 3) (.cons (pP 4) .nil))))))),(5,.row 39 48 bR),(6,fB 7 8 9),(7,.map aQ fq),(8,.map bP .bool),(9,.row 84 40 bP)] 117 akG [0,1,2,3,4,6,7,8,99,100] (.bY (LU (fO q0_ q1_)))
theorem TX(q0_:Zg)(q1_:Zo)(h0_:hS (AM q0_))(h1_:hS (vH q1_)):hS (TW q0_ q1_):=
 cO ⟨[hE 2 [cB 0 [(0,6),(1,5),(2,7),(3,8),(4,9)] []],hE 12 [cB 1 [(0,6),(1,7),(2,8),(3,96)] [(93,77)]],hE 15 [cB 2 [(0,0),(1,1),(2,2),(3,3),(4,4),(5,84),(6,6),(7,7),(8,8),(9,77)] [(99,86),(100,93)]],(17,⟨[],[],[],none,[],[],[.tB 0 [] 94]⟩)],[(7,abf),(9,abf),(19,akE)],[],[(10,⟨akF,fun u5=>Int.toNat u5.2.1+1⟩)],[],[]⟩ (hq TV (hq h0_ (hq h1_ hz))) aJ Tryz.call218 Tryz.func218
def du:Nat→Zg×Zo:=@Nat.rec (fun _=>(iw×aU×(Zc)×Int×Int×Bool×(Ze)×Unit×(Zk)×(Zi)×(Zh)×Unit→Option ZZ)×(eQ×Int×(Zp)×aU×(Zc)×Int×Int×Bool×(Ze)×Unit×(Zk)×(Zi)×(Zh)×Unit→Option (Bool×eQ×Int×Zb))) (fun _=>none,fun _=>none) (fun _ ih=>(fun d=>jc ih.1 ih.2 d.1 d.2.1 d.2.2.1 d.2.2.2.1 d.2.2.2.2.1 d.2.2.2.2.2.1 d.2.2.2.2.2.2.1 d.2.2.2.2.2.2.2.1 d.2.2.2.2.2.2.2.2.1 d.2.2.2.2.2.2.2.2.2.1 d.2.2.2.2.2.2.2.2.2.2.1,fun d=>fO ih.1 ih.2 d.1 d.2.1 d.2.2.1 d.2.2.2.1 d.2.2.2.2.1 d.2.2.2.2.2.1 d.2.2.2.2.2.2.1 d.2.2.2.2.2.2.2.1 d.2.2.2.2.2.2.2.2.1 d.2.2.2.2.2.2.2.2.2.1 d.2.2.2.2.2.2.2.2.2.2.1 d.2.2.2.2.2.2.2.2.2.2.2.1 d.2.2.2.2.2.2.2.2.2.2.2.2.1))
theorem Ml(n:Nat):hS (AM ((du n).1))∧hS (vH ((du n).2)):=by
 induction n with
 |zero=>exact⟨bG.aaW,bG.aaW⟩
 |succ n ih=>exact⟨Xl _ _ ih.1 ih.2,TX _ _ ih.1 ih.2⟩
def iz(a0:iw)(a1:aU)(a2:Zc)(a3:Int)(a4:Int)(a5:Bool)(a6:Ze)(a7:Unit)(a8:Zk)(a9:Zi)(a10:Zh):Option ZZ:=(du dG).1 (a0,a1,a2,a3,a4,a5,a6,a7,a8,a9,a10,())
def TY:bG:=aG G [.cell 4 86] 52 [pP 0,.val aQ] [(0,fB 1 2 3),(1,.map aQ fq),(2,.map bP .bool),(3,.row 84 40 bP)] 115 Ji [0,1,2,93] (.bY (Ib iz))
theorem TZ:hS TY:=(Ml dG).1
end Go.Proofs.YtkhfnbfpgcjllaaGreatDoor
