/- part -/
import Derived.Test.YtpmlkhjpbjnagaaGreatUF
noncomputable section
namespace Go.Proofs.YtpmlkhjpbjnagaaGreat
open Go.Ax
def i7(q0_:Zk)(q1_:Zj)(a0:cM)(a1:bz)(a2:Zb)(a3:Int)(a4:Int)(a5:Bool)(a6:Zc)(a7:Unit)(a8:Ze)(a9:Zd)(a10:Zh):Option WA:=
 if(bT aK a0 a8)=true then(some (a1,a2,a3,a4,a5,a6,a7,a8,a9,aQ aK eE a0 a8,a10)) else(aI (U:=bz×Zb×Int×Int×Bool×Zc×Unit×Ze×Zd×cM×Int×Int×Int×Int×Bool×NG×Zh) (if(aQ (.int .i64) .bool a0.1 (aY a6))=true then((vf q0_ q1_ a0 a1 a2 a3 a4 a5 a6 a7 a8 a9 a10).bind fun⟨a,b,c,d,e,f,g,h,i,j,k⟩=>some (.brk (a,b,c,d,e,f,g,h,i,a0,0,0,0,0,false,j,k))) else((gz a0 a1 a2 a3 a4 a5 a6 a7 a8 a9 a10).bind fun⟨l,m,n,o,p,q,r,s,t,u,v⟩=>Dh (.var oq (.cons (.val fE a1) (.cons (.val (.map aK (.slice 64 bH)) a2) (.cons (.val (.int .i64) a3) (.cons (.val (.int .i64) a4) (.cons (.val .bool a5) (.cons (.val (.map (.int .i64) .bool) a6) (.cons (.mp 1) (.cons (.mp 2) (.cons (.own 3) (.val .unit a7))))))))))) (.var oq (.cons (.val fE l) (.cons (.val (.map aK (.slice 64 bH)) m) (.cons (.val (.int .i64) n) (.cons (.val (.int .i64) o) (.cons (.val .bool p) (.cons (.val (.map (.int .i64) .bool) q) (.cons (.mp 1) (.cons (.mp 2) (.cons (.own 3) (.val .unit r))))))))))) (Dh (.map aK eE a8) (.map aK eE s) (Dh (.map aR .bool a9) (.map aR .bool t) (Dh (.row 110 40 aR a10) (.row 110 40 aR u) ((f87 v a0.1 a0.2.1 a0.2.2.1 a3 a4).bind fun⟨y,x,w⟩=>(nj w).bind fun y5=>(ia a10 y5 a1 a2 a3 a4 a5 a6 a7 a8 a9).bind fun⟨_,z,aa,ab,ac,ad,ae,af,ag,ah,ai⟩=>some (.brk (z,aa,ab,ac,ad,ae,af,ag,ah,a0,0,0,0,0,false,(x,0,([]:Zl),y,()),ai)))))))) fun⟨ak,al,am,an,ao,ap,aq,aj,av,ar,_,_,_,_,_,au,aw⟩=>if aj.length+1≤aH then(some (ak,al,am,an,ao,ap,aq,aX aK ar au aj,av,au,aw)) else none)
def agE:SS:=⟨75,115,[tP 0 0,tP 3 19,tP 4 20,tP 7 23],[(0,fB 1 2 92),(1,.map aK eE),(2,.map aR .bool),(19,bV aK),(20,.var eE (.cons (.cons vI (.cons vI (.cons vI (.cons .bn .nil)))) (.cons vI (.cons .bn (.cons vB .nil))))),(23,bV eE),(92,.row 110 40 aR)],[]⟩
def agF:SS:=⟨75,115,[tP 4 20],WI,[]⟩
def UE(q0_:Zk)(q1_:Zj):aZ:=aF G [.cell 4 79] 62 [pP 0,.val aK] IJ 115 agF [0,1,2,93] (.br (MN (i7 q0_ q1_)))
theorem UF(q0_:Zk)(q1_:Zj)(h0_:hS (vb q0_))(h1_:hS (pQ q1_)):hS (UE q0_ q1_):=
 cO ⟨[hE 6 [cB 0 [(0,0),(1,1),(2,2),(3,3)] [(65,47)]],hE 7 [⟨[1],[(0,0),(1,1),(2,2),(3,3)],[],[],[0,1,2,3]⟩,cA 2],hE 9 [⟨[3],[],[(18,80),(19,91)],[(0,0)],[]⟩,cB 4 [(0,3),(1,91),(2,80),(3,0),(4,1),(5,2)] [(32,81)]]],[(10,agE)],[],[],[],[]⟩ (hq (Td q0_ q1_ h0_ h1_) (hq Tf (hq x87 (hq Ux (hq RQ hz))))) aJ Tryz.call62 Tryz.func62
def f254(a0:dw)(a1:pD):Option (Bool×dF):=
 (f167 a0 a1.2.2.1 a1.2.2.2.1).bind fun⟨a,b⟩=>Option.bind (α:=Bool) (if !a then(some true) else((f168 a0 b).bind fun y2=>if !y2 then(some true) else(if decide ((0:Int)≤b.2.2.2.2.1) then(if 0≤b.2.2.2.2.1 then(if b.2.2.2.2.1<(a0.1.2.1.length:Int) then((f132 a0 (nth aU a0.1.2.1 b.2.2.2.2.1)).bind fun y3=>some (!y3)) else none) else none) else(some false)))) fun v4=>if v4=true then(some (false,b)) else(some (true,b))
def agG:SS:=⟨42,82,[tP 4 20,(5,vB)],[(20,bV fD)],[]⟩
def agH:aZ:=aF G [.cell 4 119,.tmp 5] 254 [.val iK,.val eW] [] 82 agG [] (.br (u2 f254))
theorem agI:hS agH:=
 cO (hR [hA 1 0,hD 2 39 [cA 1,cA 2]]) (hq ML (hq UA (hq X1 hz))) aJ Tryz.call254 Tryz.func254
def f219(a0:cp)(a1:pD)(a2:Int):Option xX:=
 (f254 (a0,()) a1).bind fun⟨a,b⟩=>aI (U:=Int×cp×dF) (Option.bind (α:=Bool) (if !a then(some true) else(if decide (a2<(0:Int)) then(some true) else(some (decide ((1048576:Int)<a2))))) fun v3=>if v3=true then(bU (some (0,120))) else(some (.brk (a2,a0,b)))) fun⟨e,d,c⟩=>if decide ((0:Int)≤c.2.2.2.2.1) then(if 0≤c.2.2.2.2.1 then(if c.2.2.2.2.1<(d.2.1.length:Int) then(some (bq (e*(nth aU d.2.1 c.2.2.2.2.1).2.2.2.2.1),0)) else none) else none) else(some (e,0))
def agJ:SS:=⟨42,82,[tI 2,tP 3 19,tP 9 25],[(19,bV iJ),(25,bV fD)],[]⟩
def agK:SS:=⟨42,82,[tI 6,tI 7],[],[]⟩
def agL:aZ:=aF G [.tmp 6,.tmp 7] 219 [.val iJ,.val eW,vI] [] 82 agK [] (.br (u3 f219))
theorem agM:hS agL:=
 cO ⟨[hA 2 0,hD 3 28 []],[(5,agJ)],[],[],[],[]⟩ (hq agI hz) aJ Tryz.call219 Tryz.func219
def rq(a0:gL)(a1:dn)(a2:bz)(a3:Zb)(a4:Int)(a5:Int)(a6:Bool)(a7:Zc)(a8:Unit)(a9:Zl)(a10:Ze)(a11:Zd)(a12:Zh):Option (Int×dn×Ys):=
 if 0≤a0.2.2.1 then(if a0.2.2.1<(a1.2.2.1.length:Int) then((f166 a0 a9).bind fun y1=>(f219 a2.1.1 ([],[],(nth aP a1.2.2.1 a0.2.2.1).2.2.1,a0.2.2.2.1,()) y1).bind fun⟨a,_⟩=>some (a,a1,a2,a3,a4,a5,a6,a7,a8,a9,a10,a11,a12)) else none) else none
def Yl:List (Nat×db):=[(0,bV bG),(1,.var (.aT .ptr) (pP 3)),(2,.var (.slice 48 bp) (.own 4)),(3,fB 5 6 7),(4,.row 50 48 bp),(5,.map aK eE),(6,.map aR .bool),(7,.row 110 40 aR)]
def agN:SS:=⟨34,74,[tI 5],Yl,[]⟩
def Rc:aZ:=aF G [.tmp 5] 218 [.val aU,pP 0,pP 1,pP 2] Yl 74 agN [0,1,2,3,4,5,6,7] (.br (IB rq))
theorem Re:hS Rc:=
 cO (hR [hE 2 [cA 0,cA 1]]) (hq Tb (hq agM hz)) aJ Tryz.call218 Tryz.func218
def Iw(a0:Int)(a1:Int):Zm:=
 some (!decide (a0=a1))
def agO:SS:=⟨6,46,[(2,vB)],[],[]⟩
def Rf:aZ:=aF G [.tmp 2] 258 [.cc (.int .i64),.cc (.int .i64)] [] 46 agO [] (.br (u2 Iw))
theorem Rg:hS Rf:=
 cO (hR []) hz aJ Tryz.call258 Tryz.func258
def Iy(a0:Int)(a1:Int):Zm:=
 some (decide (a0≤a1))
def agP:SS:=⟨6,46,[(2,vB)],[],[]⟩
def Rh:aZ:=aF G [.tmp 2] 257 [.cc (.int .i64),.cc (.int .i64)] [] 46 agP [] (.br (u2 Iy))
theorem Rj:hS Rh:=
 cO (hR []) hz aJ Tryz.call257 Tryz.func257
def Iz(a0:Int)(a1:Int):Zm:=
 some (decide (a0<a1))
def agQ:SS:=⟨6,46,[(2,vB)],[],[]⟩
def Rk:aZ:=aF G [.tmp 2] 256 [.cc (.int .i64),.cc (.int .i64)] [] 46 agQ [] (.br (u2 Iz))
theorem Rl:hS Rk:=
 cO (hR []) hz aJ Tryz.call256 Tryz.func256
def IA(a0:Int)(a1:Int):Zm:=
 some (decide (a0=a1))
def agR:SS:=⟨6,46,[(2,vB)],[],[]⟩
def Rm:aZ:=aF G [.tmp 2] 255 [.cc (.int .i64),.cc (.int .i64)] [] 46 agR [] (.br (u2 IA))
theorem Ro:hS Rm:=
 cO (hR []) hz aJ Tryz.call255 Tryz.func255
def f220(a0:Int)(a1:Int)(a2:Int):Zm:=
 if bl (.int .i64) a0 (1:Int)=true then((IA a1 a2).bind fun y4=>some y4) else(if bl (.int .i64) a0 (2:Int)=true then((Iz a1 a2).bind fun y3=>some y3) else(if bl (.int .i64) a0 (3:Int)=true then((Iy a1 a2).bind fun y2=>some y2) else(if bl (.int .i64) a0 (4:Int)=true then((Iw a1 a2).bind fun y1=>some y1) else(some false))))
def agS:SS:=⟨26,66,[(6,vB)],[],[]⟩
def agT:aZ:=aF G [.tmp 6] 220 [vI,vI,vI] [] 66 agS [] (.br (u3 f220))
theorem agU:hS agT:=
 cO (hR [hE 3 [⟨[0,1,2,3],[],[],[],[]⟩]]) (hq Rg (hq Rj (hq Rl (hq Ro hz)))) aJ Tryz.call220 Tryz.func220
def gE:Nat→ZB×Int×Int×bz×Zb×Int×Int×Bool×Zc×Unit×Zl×Ze×Zd×Zh×dn→Option (cK Ys (Bool×Ys)):=aL fun amb ⟨aw,av,au,az,a0,a1,a2,a3,a4,a5,ax,a6,a7,a8,ay⟩=>if decide (au<av) then(if 0≤au then(if au<(aw.length:Int) then((f166 (nth aV aw au).2.1 ax).bind fun y4=>(f166 (nth aV aw au).2.2.1 ax).bind fun y5=>aI (U:=Int×Int×ZB×Int×Int×bz×Zb×Int×Int×Bool×Zc×Unit×Zl×Ze×Zd×Zh×dn×ru) (Option.bind (α:=Bool) (if !decide ((nth aV aw au).2.1.2.2.1=(-1:Int)) then(some (!decide ((nth aV aw au).2.2.1.2.2.1=(-1:Int)))) else(some false)) fun v7=>if v7=true then((rq (nth aV aw au).2.1 ay az a0 a1 a2 a3 a4 a5 ax a6 a7 a8).bind fun⟨m,a,b,c,d,e,f,g,h,i,j,k,l⟩=>(rq (nth aV aw au).2.2.1 a b c d e f g h i j k l).bind fun⟨n,z,o,p,q,r,s,t,u,v,w,x,y⟩=>some (.brk (m,n,aw,av,au,o,p,q,r,s,t,u,v,w,x,y,z,nth aV aw au))) else(some (.brk (y4,y5,aw,av,au,az,a0,a1,a2,a3,a4,a5,ax,a6,a7,a8,ay,nth aV aw au)))) fun⟨ab,ac,ao,ap,aq,ad,ae,af,ag,ah,ai,aj,ak,al,am,an,ar,aa⟩=>(f220 aa.1 ab ac).bind fun y10=>if !y10 then(bU (some (false,ad,ae,af,ag,ah,ai,aj,ak,al,am,an))) else(amb (ao,ap,bq (aq+1),ad,ae,af,ag,ah,ai,aj,ak,al,am,an,ar))) else none) else none) else(some (.brk (az,a0,a1,a2,a3,a4,a5,ax,a6,a7,a8)))
def oe(a0:dn)(a1:bz)(a2:Zb)(a3:Int)(a4:Int)(a5:Bool)(a6:Zc)(a7:Unit)(a8:Zl)(a9:Ze)(a10:Zd)(a11:Zh):Option (Bool×Ys):=
 aI (U:=Ys) (gE (Int.toNat (a0.2.2.2.1.length:Int)+1) (a0.2.2.2.1,(a0.2.2.2.1.length:Int),0,a1,a2,a3,a4,a5,a6,a7,a8,a9,a10,a11,a0)) fun⟨a,b,c,d,e,f,g,h,i,j,k⟩=>some (true,a,b,c,d,e,f,g,h,i,j,k)
def agV:SS:=⟨53,93,[tP 5 21,(7,.func 218 .nil (.cons (pP 20) (.cons (pP 19) (.cons (pP 21) .nil)))),tP 9 25,tI 10,tI 11,(14,.val (.slice 120 aV)),tI 15,tI 16],[(0,fB 2 3 4),(1,.row 50 48 bp),(2,.map aK eE),(3,.map aR .bool),(4,.row 110 40 aR),(19,.var (.aT .ptr) (pP 0)),(20,bV bG),(21,.var (.slice 48 bp) (.own 1)),(25,bV aV)],[]⟩
def UG:List (Nat×db):=[(0,fB 2 3 4),(1,.row 50 48 bp),(2,.map aK eE),(3,.map aR .bool),(4,.row 110 40 aR)]
def agW:SS:=⟨53,93,[],UG,[]⟩
def agX:SS:=⟨53,93,[tP 5 21,(7,.func 218 .nil (.cons (pP 20) (.cons (pP 19) (.cons (pP 21) .nil)))),(14,.val (.slice 120 aV)),tI 15,tI 16],[(0,fB 2 3 4),(1,.row 50 48 bp),(2,.map aK eE),(3,.map aR .bool),(4,.row 110 40 aR),(19,.var (.aT .ptr) (pP 0)),(20,bV bG),(21,.var (.slice 48 bp) (.own 1))],[]⟩
def agY:SS:=⟨53,93,[(6,vB)],UG,[]⟩
def Rp:aZ:=aF G [.tmp 6] 165 [pP 0,.val bG,.own 1] UG 93 agY [0,1,2,3,4] (.br (MO oe))
theorem Rq:hS Rp:=
 cO ⟨[hE 5 [cA 0,cA 0],hD 6 37 [],hE 7 [cB 1 [(0,20),(1,19),(2,21),(3,0),(4,1),(5,2),(6,3),(7,4)] [],cB 1 [(0,20),(1,19),(2,21),(3,0),(4,1),(5,2),(6,3),(7,4)] []],hA 8 2],[(8,agV),(11,agW)],[],[(3,⟨agX,fun u2=>Int.toNat u2.2.1+1⟩)],[],[]⟩ (hq Tb (hq Re (hq agU hz))) aJ Tryz.call165 Tryz.func165
def nn(q0_:Zk)(q1_:Zj):Nat→Int×Int×Int×dn×Int×bz×Zb×Int×Int×Bool×Zc×Unit×Ze×Zd×BJ×Zl×Zh→Option (cK (dn×Int×Zt) (Bool×dn×Int×Zt)):=aL fun rec6 ⟨ac,aa,z,ao,ap,ad,ae,af,ag,ah,ai,aj,ak,al,ab,an,am⟩=>if decide (z<aa) then((q0_ ((ab.2.2.1,ac,z,()),ad,ae,af,ag,ah,ai,aj,ak,al,am,())).bind fun⟨b,c,d,e,f,g,h,i,j,a,k⟩=>if a.2.2.2.1=true then(if(List.length an+List.length [a.1])*48≤aH then((q1_ (ao,ap,an++[a.1],b,c,d,e,f,g,h,i,j,k,())).bind fun⟨l,m,n,o,p,q,r,s,t,u,v,w,x,y⟩=>if l=true then(bU (some (true,m,n,o,p,q,r,s,t,u,v,w,x,y))) else(if 0≤(bq ((x.length:Int) -(1:Int))) then(if(bq ((x.length:Int) -(1:Int)))≤(x.length:Int) then(rec6 (ac,aa,bq (z+1),m,n,o,p,q,r,s,t,u,v,w,ab,List.take ((Int.toNat (bq ((x.length:Int) -(1:Int)))) -0) x,y)) else none) else none)) else none) else(rec6 (ac,aa,bq (z+1),ao,ap,b,c,d,e,f,g,h,i,j,ab,an,k))) else(some (.brk (ao,ap,ad,ae,af,ag,ah,ai,aj,ak,al,an,am)))
def jq(q0_:Zk)(q1_:Zj)(a0:dn)(a1:Int)(a2:Zl)(a3:bz)(a4:Zb)(a5:Int)(a6:Int)(a7:Bool)(a8:Zc)(a9:Unit)(a10:Ze)(a11:Zd)(a12:Zh):Option (Bool×dn×Int×Zt):=
 if decide ((a2.length:Int)=(a0.2.2.1.length:Int)) then((oe a0 a3 a4 a5 a6 a7 a8 a9 a2 a10 a11 a12).bind fun⟨a,b,c,d,e,f,g,h,k,i,j,l⟩=>some (a,a0,a1,b,c,d,e,f,g,h,i,j,k,l)) else(if 0≤(a2.length:Int) then(if(a2.length:Int)<(a0.2.2.1.length:Int) then(aI (U:=Int×Int×dn×Int×Zl×bz×Zb×Int×Int×Bool×Zc×Unit×Ze×Zd×Zh×BJ) (if !decide ((nth aP a0.2.2.1 (a2.length:Int)).2.2.2.1.2.2.1=(-1:Int)) then(if 0≤(nth aP a0.2.2.1 (a2.length:Int)).2.2.2.1.2.2.1 then(if(nth aP a0.2.2.1 (a2.length:Int)).2.2.2.1.2.2.1<(a2.length:Int) then(if 0≤(nth aP a0.2.2.1 (a2.length:Int)).2.2.2.1.2.2.2.1 then(if(nth aP a0.2.2.1 (a2.length:Int)).2.2.2.1.2.2.2.1<(List.length (nth bp a2 (nth aP a0.2.2.1 (a2.length:Int)).2.2.2.1.2.2.1).2.2.2.1:Int) then(some (.brk (nth (.int .i64) (nth bp a2 (nth aP a0.2.2.1 (a2.length:Int)).2.2.2.1.2.2.1).2.2.2.1 (nth aP a0.2.2.1 (a2.length:Int)).2.2.2.1.2.2.2.1,4,a0,a1,a2,a3,a4,a5,a6,a7,a8,a9,a10,a11,a12,nth aP a0.2.2.1 (a2.length:Int)))) else none) else none) else none) else none) else(some (.brk (a1,4,a0,a1,a2,a3,a4,a5,a6,a7,a8,a9,a10,a11,a12,nth aP a0.2.2.1 (a2.length:Int))))) fun⟨o,ab,p,q,r,s,t,u,v,w,n,x,y,z,aa,m⟩=>aI (U:=Int×Int×dn×Int×Zl×bz×Zb×Int×Int×Bool×Zc×Unit×Ze×Zd×Zh×BJ) (if(aQ (.int .i64) .bool m.2.2.1 (aY n))=true then(some (.brk (o,1,p,q,r,s,t,u,v,w,n,x,y,z,aa,m))) else(some (.brk (o,ab,p,q,r,s,t,u,v,w,n,x,y,z,aa,m)))) fun⟨ad,ac,ae,af,aq,ag,ah,ai,aj,ak,al,am,an,ao,ar,ap⟩=>aI (U:=dn×Int×Zt) (nn q0_ q1_ (Int.toNat ac+1) (ad,ac,0,ae,af,ag,ah,ai,aj,ak,al,am,an,ao,ap,aq,ar)) fun⟨au,av,aw,ax,ay,az,ba,bb,bc,bd,be,bf,bg⟩=>some (false,au,av,aw,ax,ay,az,ba,bb,bc,bd,be,bf,bg)) else none) else none)
def Ym:SS:=⟨77,117,[tP 0 0,tP 2 2,tP 4 4,tP 6 22,tI 7,tI 8],[(0,.var (.slice 48 bp) (.own 5)),(1,bV bG),(2,.var (.aT .ptr) (pP 6)),(3,bI),(4,.var (.aT .func) (.func 164 .nil (.cons (pP 0) (.cons (pP 1) (.cons (pP 2) (.cons (pP 3) (.cons (pP 4) .nil))))))),(5,.row 50 48 bp),(6,fB 7 8 9),(7,.map aK eE),(8,.map aR .bool),(9,.row 110 40 aR),(22,bV aP)],[]⟩
def agZ:SS:=⟨77,117,[],[(0,.var (.slice 48 bp) (.own 97)),(1,bV bG),(2,.var (.aT .ptr) (pP 6)),(3,bI),(4,.var (.aT .func) (.func 164 .nil (.cons (pP 0) (.cons (pP 1) (.cons (pP 2) (.cons (pP 3) (.cons (pP 4) .nil))))))),(6,fB 7 8 98),(7,.map aK eE),(8,.map aR .bool),(97,.row 50 48 bp),(98,.row 110 40 aR)],[]⟩
def ag0:SS:=⟨77,117,[tP 0 0,tP 2 2,tP 4 4,tP 6 22,tI 7,tI 51,tI 52],[(0,.var (.slice 48 bp) (.own 95)),(1,bV bG),(2,.var (.aT .ptr) (pP 6)),(3,bI),(4,.var (.aT .func) (.func 164 .nil (.cons (pP 0) (.cons (pP 1) (.cons (pP 2) (.cons (pP 3) (.cons (pP 4) .nil))))))),(6,fB 7 8 96),(7,.map aK eE),(8,.map aR .bool),(22,bV aP),(95,.row 50 48 bp),(96,.row 110 40 aR)],[]⟩
def ag1:SS:=⟨77,117,[(5,vB)],WJ,[]⟩
def Rr(q0_:Zk)(q1_:Zj):aZ:=aF G [.tmp 5] 164 [pP 0,pP 1,pP 2,pP 3,pP 4] WK 117 ag1 [0,1,2,3,4,6,7,8,99,100] (.br (IB (jq q0_ q1_)))
theorem Rt(q0_:Zk)(q1_:Zj)(h0_:hS (vb q0_))(h1_:hS (pQ q1_)):hS (Rr q0_ q1_):=
 cO ⟨[hE 2 [cB 0 [(0,6),(1,5),(2,7),(3,8),(4,9)] []],hE 12 [cB 1 [(0,6),(1,7),(2,8),(3,96)] [(93,77)]],hE 15 [cB 2 [(0,0),(1,1),(2,2),(3,3),(4,4),(5,84),(6,6),(7,7),(8,8),(9,77)] [(99,86),(100,93)]],(17,⟨[],[],[],none,[],[],[.oI 0 [] 94]⟩)],[(7,Ym),(9,Ym),(19,agZ)],[],[(10,⟨ag0,fun u5=>Int.toNat u5.2.1+1⟩)],[],[]⟩ (hq Rq (hq h0_ (hq h1_ hz))) aJ Tryz.call164 Tryz.func164
def eU:Nat→Zk×Zj:=@Nat.rec (fun _=>(cM×bz×(Zb)×Int×Int×Bool×(Zc)×Unit×(Ze)×(Zd)×(Zh)×Unit→Option WA)×(dn×Int×(Zl)×bz×(Zb)×Int×Int×Bool×(Zc)×Unit×(Ze)×(Zd)×(Zh)×Unit→Option (Bool×dn×Int×Zt))) (fun _=>none,fun _=>none) (fun _ ih=>(fun d=>i7 ih.1 ih.2 d.1 d.2.1 d.2.2.1 d.2.2.2.1 d.2.2.2.2.1 d.2.2.2.2.2.1 d.2.2.2.2.2.2.1 d.2.2.2.2.2.2.2.1 d.2.2.2.2.2.2.2.2.1 d.2.2.2.2.2.2.2.2.2.1 d.2.2.2.2.2.2.2.2.2.2.1,fun d=>jq ih.1 ih.2 d.1 d.2.1 d.2.2.1 d.2.2.2.1 d.2.2.2.2.1 d.2.2.2.2.2.1 d.2.2.2.2.2.2.1 d.2.2.2.2.2.2.2.1 d.2.2.2.2.2.2.2.2.1 d.2.2.2.2.2.2.2.2.2.1 d.2.2.2.2.2.2.2.2.2.2.1 d.2.2.2.2.2.2.2.2.2.2.2.1 d.2.2.2.2.2.2.2.2.2.2.2.2.1))
theorem JC(n:Nat):hS (vb ((eU n).1))∧hS (pQ ((eU n).2)):=by
 induction n with
 |zero=>exact⟨aZ.XK,aZ.XK⟩
 |succ n ih=>exact⟨UF _ _ ih.1 ih.2,Rt _ _ ih.1 ih.2⟩
def lK(a0:cM)(a1:bz)(a2:Zb)(a3:Int)(a4:Int)(a5:Bool)(a6:Zc)(a7:Unit)(a8:Ze)(a9:Zd)(a10:Zh):Option WA:=(eU iw).1 (a0,a1,a2,a3,a4,a5,a6,a7,a8,a9,a10,())
def Rv:aZ:=aF G [.cell 4 79] 62 [pP 0,.val aK] IJ 115 Ef [0,1,2,93] (.br (MN lK))
theorem Rw:hS Rv:=(JC iw).1
end Go.Proofs.YtpmlkhjpbjnagaaGreat
