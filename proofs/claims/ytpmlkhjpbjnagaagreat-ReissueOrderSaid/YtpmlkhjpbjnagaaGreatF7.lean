/- part -/
import Derived.Test.YtpmlkhjpbjnagaaGreatUF
noncomputable section
namespace Go.Proofs.YtpmlkhjpbjnagaaGreat
open Go.Ax
def je(q0_:Zk)(q1_:Zj)(a0:cL)(a1:bz)(a2:Zb)(a3:Int)(a4:Int)(a5:Bool)(a6:Zc)(a7:Unit)(a8:Zf)(a9:Zd)(a10:Zh):Option ZZ:=
 if(bT aJ a0 a8)=true then(some (a1,a2,a3,a4,a5,a6,a7,a8,a9,aP aJ eE a0 a8,a10)) else(aI (U:=bz×Zb×Int×Int×Bool×Zc×Unit×Zf×Zd×cL×Int×Int×Int×Int×Bool×MV×Zh) (if(aP (.int .i64) .bool a0.1 (aX a6))=true then((vF q0_ q1_ a0 a1 a2 a3 a4 a5 a6 a7 a8 a9 a10).bind fun⟨a,b,c,d,e,f,g,h,i,j,k⟩=>some (.brk (a,b,c,d,e,f,g,h,i,a0,0,0,0,0,false,j,k))) else((gB a0 a1 a2 a3 a4 a5 a6 a7 a8 a9 a10).bind fun⟨l,m,n,o,p,q,r,s,t,u,v⟩=>Ds (.var oJ (.cons (.val fF a1) (.cons (.val (.map aJ (.slice 64 bH)) a2) (.cons (.val (.int .i64) a3) (.cons (.val (.int .i64) a4) (.cons (.val .bool a5) (.cons (.val (.map (.int .i64) .bool) a6) (.cons (.mp 1) (.cons (.mp 2) (.cons (.own 3) (.val .unit a7))))))))))) (.var oJ (.cons (.val fF l) (.cons (.val (.map aJ (.slice 64 bH)) m) (.cons (.val (.int .i64) n) (.cons (.val (.int .i64) o) (.cons (.val .bool p) (.cons (.val (.map (.int .i64) .bool) q) (.cons (.mp 1) (.cons (.mp 2) (.cons (.own 3) (.val .unit r))))))))))) (Ds (.map aJ eE a8) (.map aJ eE s) (Ds (.map aR .bool a9) (.map aR .bool t) (Ds (.row 110 40 aR a10) (.row 110 40 aR u) ((f87 v a0.1 a0.2.1 a0.2.2.1 a3 a4).bind fun⟨y,x,w⟩=>(nC w).bind fun y5=>(ik a10 y5 a1 a2 a3 a4 a5 a6 a7 a8 a9).bind fun⟨_,z,aa,ab,ac,ad,ae,af,ag,ah,ai⟩=>some (.brk (z,aa,ab,ac,ad,ae,af,ag,ah,a0,0,0,0,0,false,(x,0,([]:Zn),y,()),ai)))))))) fun⟨ak,al,am,an,ao,ap,aq,aj,av,ar,_,_,_,_,_,au,aw⟩=>if aj.length+1≤aH then(some (ak,al,am,an,ao,ap,aq,aY aJ ar au aj,av,au,aw)) else none)
def agT:SS:=⟨75,115,[tP 0 0,tP 3 19,tP 4 20,tP 7 23],[(0,fB 1 2 92),(1,.map aJ eE),(2,.map aR .bool),(19,bV aJ),(20,.var eE (.cons (.cons vI (.cons vI (.cons vI (.cons .bn .nil)))) (.cons vI (.cons .bn (.cons vB .nil))))),(23,bV eE),(92,.row 110 40 aR)],[]⟩
def agU:SS:=⟨75,115,[tP 4 20],WL,[]⟩
def UL(q0_:Zk)(q1_:Zj):aZ:=aG G [.cell 4 79] 62 [pP 0,.val aJ] IU 115 agU [0,1,2,93] (.bq (MW (je q0_ q1_)))
theorem UM(q0_:Zk)(q1_:Zj)(h0_:hS (vE q0_))(h1_:hS (qf q1_)):hS (UL q0_ q1_):=
 cO ⟨[hE 6 [cB 0 [(0,0),(1,1),(2,2),(3,3)] [(65,47)]],hE 7 [⟨[1],[(0,0),(1,1),(2,2),(3,3)],[],[],[0,1,2,3]⟩,cA 2],hE 9 [⟨[3],[],[(18,80),(19,91)],[(0,0)],[]⟩,cB 4 [(0,3),(1,91),(2,80),(3,0),(4,1),(5,2)] [(32,81)]]],[(10,agT)],[],[],[],[]⟩ (hq (Ti q0_ q1_ h0_ h1_) (hq Tk (hq x87 (hq UE (hq RZ hz))))) aK Tryz.call62 Tryz.func62
def f254(a0:dx)(a1:pX):Option (Bool×dG):=
 (f167 a0 a1.2.2.1 a1.2.2.2.1).bind fun⟨a,b⟩=>Option.bind (α:=Bool) (if !a then(some true) else((f168 a0 b).bind fun y2=>if !y2 then(some true) else(if decide ((0:Int)≤b.2.2.2.2.1) then(if 0≤b.2.2.2.2.1 then(if b.2.2.2.2.1<(a0.1.2.1.length:Int) then((f132 a0 (nth aU a0.1.2.1 b.2.2.2.2.1)).bind fun y3=>some (!y3)) else none) else none) else(some false)))) fun v4=>if v4=true then(some (false,b)) else(some (true,b))
def agV:SS:=⟨42,82,[tP 4 20,(5,vB)],[(20,bV fD)],[]⟩
def agW:aZ:=aG G [.cell 4 119,.tmp 5] 254 [.val iL,.val fa] [] 82 agV [] (.bq (u2 f254))
theorem agX:hS agW:=
 cO (hR [hA 1 0,hD 2 39 [cA 1,cA 2]]) (hq MT (hq UH (hq Yr hz))) aK Tryz.call254 Tryz.func254
def f219(a0:cu)(a1:pX)(a2:Int):Option BX:=
 (f254 (a0,()) a1).bind fun⟨a,b⟩=>aI (U:=Int×cu×dG) (Option.bind (α:=Bool) (if !a then(some true) else(if decide (a2<(0:Int)) then(some true) else(some (decide ((1048576:Int)<a2))))) fun v3=>if v3=true then(bX (some (0,120))) else(some (.brk (a2,a0,b)))) fun⟨e,d,c⟩=>if decide ((0:Int)≤c.2.2.2.2.1) then(if 0≤c.2.2.2.2.1 then(if c.2.2.2.2.1<(d.2.1.length:Int) then(some (bp (e*(nth aU d.2.1 c.2.2.2.2.1).2.2.2.2.1),0)) else none) else none) else(some (e,0))
def agY:SS:=⟨42,82,[tI 2,tP 3 19,tP 9 25],[(19,bV iK),(25,bV fD)],[]⟩
def agZ:SS:=⟨42,82,[tI 6,tI 7],[],[]⟩
def ag0:aZ:=aG G [.tmp 6,.tmp 7] 219 [.val iK,.val fa,vI] [] 82 agZ [] (.bq (u3 f219))
theorem ag1:hS ag0:=
 cO ⟨[hA 2 0,hD 3 28 []],[(5,agY)],[],[],[],[]⟩ (hq agX hz) aK Tryz.call219 Tryz.func219
def rL(a0:gQ)(a1:dr)(a2:bz)(a3:Zb)(a4:Int)(a5:Int)(a6:Bool)(a7:Zc)(a8:Unit)(a9:Zn)(a10:Zf)(a11:Zd)(a12:Zh):Option (Int×dr×YS):=
 if 0≤a0.2.2.1 then(if a0.2.2.1<(a1.2.2.1.length:Int) then((f166 a0 a9).bind fun y1=>(f219 a2.1.1 ([],[],(nth aQ a1.2.2.1 a0.2.2.1).2.2.1,a0.2.2.2.1,()) y1).bind fun⟨a,_⟩=>some (a,a1,a2,a3,a4,a5,a6,a7,a8,a9,a10,a11,a12)) else none) else none
def YL:List (Nat×de):=[(0,bV bG),(1,.var (.aT .ptr) (pP 3)),(2,.var (.slice 48 br) (.own 4)),(3,fB 5 6 7),(4,.row 50 48 br),(5,.map aJ eE),(6,.map aR .bool),(7,.row 110 40 aR)]
def ag2:SS:=⟨34,74,[tI 5],YL,[]⟩
def Rl:aZ:=aG G [.tmp 5] 218 [.val aU,pP 0,pP 1,pP 2] YL 74 ag2 [0,1,2,3,4,5,6,7] (.bq (Kb rL))
theorem Rm:hS Rl:=
 cO (hR [hE 2 [cA 0,cA 1]]) (hq Tg (hq ag1 hz)) aK Tryz.call218 Tryz.func218
def II(a0:Int)(a1:Int):Zl:=
 some (!decide (a0=a1))
def ag3:SS:=⟨6,46,[(2,vB)],[],[]⟩
def Ro:aZ:=aG G [.tmp 2] 258 [.cd (.int .i64),.cd (.int .i64)] [] 46 ag3 [] (.bq (u2 II))
theorem Rp:hS Ro:=
 cO (hR []) hz aK Tryz.call258 Tryz.func258
def IJ(a0:Int)(a1:Int):Zl:=
 some (decide (a0≤a1))
def ag4:SS:=⟨6,46,[(2,vB)],[],[]⟩
def Rq:aZ:=aG G [.tmp 2] 257 [.cd (.int .i64),.cd (.int .i64)] [] 46 ag4 [] (.bq (u2 IJ))
theorem Rr:hS Rq:=
 cO (hR []) hz aK Tryz.call257 Tryz.func257
def IK(a0:Int)(a1:Int):Zl:=
 some (decide (a0<a1))
def ag5:SS:=⟨6,46,[(2,vB)],[],[]⟩
def Rt:aZ:=aG G [.tmp 2] 256 [.cd (.int .i64),.cd (.int .i64)] [] 46 ag5 [] (.bq (u2 IK))
theorem Rv:hS Rt:=
 cO (hR []) hz aK Tryz.call256 Tryz.func256
def IL(a0:Int)(a1:Int):Zl:=
 some (decide (a0=a1))
def ag6:SS:=⟨6,46,[(2,vB)],[],[]⟩
def Rw:aZ:=aG G [.tmp 2] 255 [.cd (.int .i64),.cd (.int .i64)] [] 46 ag6 [] (.bq (u2 IL))
theorem Rx:hS Rw:=
 cO (hR []) hz aK Tryz.call255 Tryz.func255
def f220(a0:Int)(a1:Int)(a2:Int):Zl:=
 if bl (.int .i64) a0 (1:Int)=true then((IL a1 a2).bind fun y4=>some y4) else(if bl (.int .i64) a0 (2:Int)=true then((IK a1 a2).bind fun y3=>some y3) else(if bl (.int .i64) a0 (3:Int)=true then((IJ a1 a2).bind fun y2=>some y2) else(if bl (.int .i64) a0 (4:Int)=true then((II a1 a2).bind fun y1=>some y1) else(some false))))
def ag7:SS:=⟨26,66,[(6,vB)],[],[]⟩
def ag8:aZ:=aG G [.tmp 6] 220 [vI,vI,vI] [] 66 ag7 [] (.bq (u3 f220))
theorem ag9:hS ag8:=
 cO (hR [hE 3 [⟨[0,1,2,3],[],[],[],[]⟩]]) (hq Rp (hq Rr (hq Rv (hq Rx hz)))) aK Tryz.call220 Tryz.func220
def gJ:Nat→ZB×Int×Int×bz×Zb×Int×Int×Bool×Zc×Unit×Zn×Zf×Zd×Zh×dr→Option (cJ YS (Bool×YS)):=aL fun al4 ⟨aw,av,au,az,a0,a1,a2,a3,a4,a5,ax,a6,a7,a8,ay⟩=>if decide (au<av) then(if 0≤au then(if au<(aw.length:Int) then((f166 (nth aV aw au).2.1 ax).bind fun y4=>(f166 (nth aV aw au).2.2.1 ax).bind fun y5=>aI (U:=Int×Int×ZB×Int×Int×bz×Zb×Int×Int×Bool×Zc×Unit×Zn×Zf×Zd×Zh×dr×rM) (Option.bind (α:=Bool) (if !decide ((nth aV aw au).2.1.2.2.1=(-1:Int)) then(some (!decide ((nth aV aw au).2.2.1.2.2.1=(-1:Int)))) else(some false)) fun v7=>if v7=true then((rL (nth aV aw au).2.1 ay az a0 a1 a2 a3 a4 a5 ax a6 a7 a8).bind fun⟨m,a,b,c,d,e,f,g,h,i,j,k,l⟩=>(rL (nth aV aw au).2.2.1 a b c d e f g h i j k l).bind fun⟨n,z,o,p,q,r,s,t,u,v,w,x,y⟩=>some (.brk (m,n,aw,av,au,o,p,q,r,s,t,u,v,w,x,y,z,nth aV aw au))) else(some (.brk (y4,y5,aw,av,au,az,a0,a1,a2,a3,a4,a5,ax,a6,a7,a8,ay,nth aV aw au)))) fun⟨ab,ac,ao,ap,aq,ad,ae,af,ag,ah,ai,aj,ak,al,am,an,ar,aa⟩=>(f220 aa.1 ab ac).bind fun y10=>if !y10 then(bX (some (false,ad,ae,af,ag,ah,ai,aj,ak,al,am,an))) else(al4 (ao,ap,bp (aq+1),ad,ae,af,ag,ah,ai,aj,ak,al,am,an,ar))) else none) else none) else(some (.brk (az,a0,a1,a2,a3,a4,a5,ax,a6,a7,a8)))
def oE(a0:dr)(a1:bz)(a2:Zb)(a3:Int)(a4:Int)(a5:Bool)(a6:Zc)(a7:Unit)(a8:Zn)(a9:Zf)(a10:Zd)(a11:Zh):Option (Bool×YS):=
 aI (U:=YS) (gJ (Int.toNat (a0.2.2.2.1.length:Int)+1) (a0.2.2.2.1,(a0.2.2.2.1.length:Int),0,a1,a2,a3,a4,a5,a6,a7,a8,a9,a10,a11,a0)) fun⟨a,b,c,d,e,f,g,h,i,j,k⟩=>some (true,a,b,c,d,e,f,g,h,i,j,k)
def aha:SS:=⟨53,93,[tP 5 21,(7,.func 218 .nil (.cons (pP 20) (.cons (pP 19) (.cons (pP 21) .nil)))),tP 9 25,tI 10,tI 11,(14,.val (.slice 120 aV)),tI 15,tI 16],[(0,fB 2 3 4),(1,.row 50 48 br),(2,.map aJ eE),(3,.map aR .bool),(4,.row 110 40 aR),(19,.var (.aT .ptr) (pP 0)),(20,bV bG),(21,.var (.slice 48 br) (.own 1)),(25,bV aV)],[]⟩
def UN:List (Nat×de):=[(0,fB 2 3 4),(1,.row 50 48 br),(2,.map aJ eE),(3,.map aR .bool),(4,.row 110 40 aR)]
def ahb:SS:=⟨53,93,[],UN,[]⟩
def ahc:SS:=⟨53,93,[tP 5 21,(7,.func 218 .nil (.cons (pP 20) (.cons (pP 19) (.cons (pP 21) .nil)))),(14,.val (.slice 120 aV)),tI 15,tI 16],[(0,fB 2 3 4),(1,.row 50 48 br),(2,.map aJ eE),(3,.map aR .bool),(4,.row 110 40 aR),(19,.var (.aT .ptr) (pP 0)),(20,bV bG),(21,.var (.slice 48 br) (.own 1))],[]⟩
def ahd:SS:=⟨53,93,[(6,vB)],UN,[]⟩
def Ry:aZ:=aG G [.tmp 6] 165 [pP 0,.val bG,.own 1] UN 93 ahd [0,1,2,3,4] (.bq (JO oE))
theorem Rz:hS Ry:=
 cO ⟨[hE 5 [cA 0,cA 0],hD 6 37 [],hE 7 [cB 1 [(0,20),(1,19),(2,21),(3,0),(4,1),(5,2),(6,3),(7,4)] [],cB 1 [(0,20),(1,19),(2,21),(3,0),(4,1),(5,2),(6,3),(7,4)] []],hA 8 2],[(8,aha),(11,ahb)],[],[(3,⟨ahc,fun u2=>Int.toNat u2.2.1+1⟩)],[],[]⟩ (hq Tg (hq Rm (hq ag9 hz))) aK Tryz.call165 Tryz.func165
def nE(q0_:Zk)(q1_:Zj):Nat→Int×Int×Int×dr×Int×bz×Zb×Int×Int×Bool×Zc×Unit×Zf×Zd×BW×Zn×Zh→Option (cJ (dr×Int×Zt) (Bool×dr×Int×Zt)):=aL fun rec6 ⟨ac,aa,z,ao,ap,ad,ae,af,ag,ah,ai,aj,ak,al,ab,an,am⟩=>if decide (z<aa) then((q0_ ((ab.2.2.1,ac,z,()),ad,ae,af,ag,ah,ai,aj,ak,al,am,())).bind fun⟨b,c,d,e,f,g,h,i,j,a,k⟩=>if a.2.2.2.1=true then(if(List.length an+List.length [a.1])*48≤aH then((q1_ (ao,ap,an++[a.1],b,c,d,e,f,g,h,i,j,k,())).bind fun⟨l,m,n,o,p,q,r,s,t,u,v,w,x,y⟩=>if l=true then(bX (some (true,m,n,o,p,q,r,s,t,u,v,w,x,y))) else(if 0≤(bp ((x.length:Int) -(1:Int))) then(if(bp ((x.length:Int) -(1:Int)))≤(x.length:Int) then(rec6 (ac,aa,bp (z+1),m,n,o,p,q,r,s,t,u,v,w,ab,List.take ((Int.toNat (bp ((x.length:Int) -(1:Int)))) -0) x,y)) else none) else none)) else none) else(rec6 (ac,aa,bp (z+1),ao,ap,b,c,d,e,f,g,h,i,j,ab,an,k))) else(some (.brk (ao,ap,ad,ae,af,ag,ah,ai,aj,ak,al,an,am)))
def jv(q0_:Zk)(q1_:Zj)(a0:dr)(a1:Int)(a2:Zn)(a3:bz)(a4:Zb)(a5:Int)(a6:Int)(a7:Bool)(a8:Zc)(a9:Unit)(a10:Zf)(a11:Zd)(a12:Zh):Option (Bool×dr×Int×Zt):=
 if decide ((a2.length:Int)=(a0.2.2.1.length:Int)) then((oE a0 a3 a4 a5 a6 a7 a8 a9 a2 a10 a11 a12).bind fun⟨a,b,c,d,e,f,g,h,k,i,j,l⟩=>some (a,a0,a1,b,c,d,e,f,g,h,i,j,k,l)) else(if 0≤(a2.length:Int) then(if(a2.length:Int)<(a0.2.2.1.length:Int) then(aI (U:=Int×Int×dr×Int×Zn×bz×Zb×Int×Int×Bool×Zc×Unit×Zf×Zd×Zh×BW) (if !decide ((nth aQ a0.2.2.1 (a2.length:Int)).2.2.2.1.2.2.1=(-1:Int)) then(if 0≤(nth aQ a0.2.2.1 (a2.length:Int)).2.2.2.1.2.2.1 then(if(nth aQ a0.2.2.1 (a2.length:Int)).2.2.2.1.2.2.1<(a2.length:Int) then(if 0≤(nth aQ a0.2.2.1 (a2.length:Int)).2.2.2.1.2.2.2.1 then(if(nth aQ a0.2.2.1 (a2.length:Int)).2.2.2.1.2.2.2.1<(List.length (nth br a2 (nth aQ a0.2.2.1 (a2.length:Int)).2.2.2.1.2.2.1).2.2.2.1:Int) then(some (.brk (nth (.int .i64) (nth br a2 (nth aQ a0.2.2.1 (a2.length:Int)).2.2.2.1.2.2.1).2.2.2.1 (nth aQ a0.2.2.1 (a2.length:Int)).2.2.2.1.2.2.2.1,4,a0,a1,a2,a3,a4,a5,a6,a7,a8,a9,a10,a11,a12,nth aQ a0.2.2.1 (a2.length:Int)))) else none) else none) else none) else none) else(some (.brk (a1,4,a0,a1,a2,a3,a4,a5,a6,a7,a8,a9,a10,a11,a12,nth aQ a0.2.2.1 (a2.length:Int))))) fun⟨o,ab,p,q,r,s,t,u,v,w,n,x,y,z,aa,m⟩=>aI (U:=Int×Int×dr×Int×Zn×bz×Zb×Int×Int×Bool×Zc×Unit×Zf×Zd×Zh×BW) (if(aP (.int .i64) .bool m.2.2.1 (aX n))=true then(some (.brk (o,1,p,q,r,s,t,u,v,w,n,x,y,z,aa,m))) else(some (.brk (o,ab,p,q,r,s,t,u,v,w,n,x,y,z,aa,m)))) fun⟨ad,ac,ae,af,aq,ag,ah,ai,aj,ak,al,am,an,ao,ar,ap⟩=>aI (U:=dr×Int×Zt) (nE q0_ q1_ (Int.toNat ac+1) (ad,ac,0,ae,af,ag,ah,ai,aj,ak,al,am,an,ao,ap,aq,ar)) fun⟨au,av,aw,ax,ay,az,ba,bb,bc,bd,be,bf,bg⟩=>some (false,au,av,aw,ax,ay,az,ba,bb,bc,bd,be,bf,bg)) else none) else none)
def YM:SS:=⟨77,117,[tP 0 0,tP 2 2,tP 4 4,tP 6 22,tI 7,tI 8],[(0,.var (.slice 48 br) (.own 5)),(1,bV bG),(2,.var (.aT .ptr) (pP 6)),(3,bI),(4,.var (.aT .func) (.func 164 .nil (.cons (pP 0) (.cons (pP 1) (.cons (pP 2) (.cons (pP 3) (.cons (pP 4) .nil))))))),(5,.row 50 48 br),(6,fB 7 8 9),(7,.map aJ eE),(8,.map aR .bool),(9,.row 110 40 aR),(22,bV aQ)],[]⟩
def ahe:SS:=⟨77,117,[],[(0,.var (.slice 48 br) (.own 97)),(1,bV bG),(2,.var (.aT .ptr) (pP 6)),(3,bI),(4,.var (.aT .func) (.func 164 .nil (.cons (pP 0) (.cons (pP 1) (.cons (pP 2) (.cons (pP 3) (.cons (pP 4) .nil))))))),(6,fB 7 8 98),(7,.map aJ eE),(8,.map aR .bool),(97,.row 50 48 br),(98,.row 110 40 aR)],[]⟩
def ahf:SS:=⟨77,117,[tP 0 0,tP 2 2,tP 4 4,tP 6 22,tI 7,tI 51,tI 52],[(0,.var (.slice 48 br) (.own 95)),(1,bV bG),(2,.var (.aT .ptr) (pP 6)),(3,bI),(4,.var (.aT .func) (.func 164 .nil (.cons (pP 0) (.cons (pP 1) (.cons (pP 2) (.cons (pP 3) (.cons (pP 4) .nil))))))),(6,fB 7 8 96),(7,.map aJ eE),(8,.map aR .bool),(22,bV aQ),(95,.row 50 48 br),(96,.row 110 40 aR)],[]⟩
def ahg:SS:=⟨77,117,[(5,vB)],WM,[]⟩
def RA(q0_:Zk)(q1_:Zj):aZ:=aG G [.tmp 5] 164 [pP 0,pP 1,pP 2,pP 3,pP 4] WN 117 ahg [0,1,2,3,4,6,7,8,99,100] (.bq (Kb (jv q0_ q1_)))
theorem RE(q0_:Zk)(q1_:Zj)(h0_:hS (vE q0_))(h1_:hS (qf q1_)):hS (RA q0_ q1_):=
 cO ⟨[hE 2 [cB 0 [(0,6),(1,5),(2,7),(3,8),(4,9)] []],hE 12 [cB 1 [(0,6),(1,7),(2,8),(3,96)] [(93,77)]],hE 15 [cB 2 [(0,0),(1,1),(2,2),(3,3),(4,4),(5,84),(6,6),(7,7),(8,8),(9,77)] [(99,86),(100,93)]],(17,⟨[],[],[],none,[],[],[.oW 0 [] 94]⟩)],[(7,YM),(9,YM),(19,ahe)],[],[(10,⟨ahf,fun u5=>Int.toNat u5.2.1+1⟩)],[],[]⟩ (hq Rz (hq h0_ (hq h1_ hz))) aK Tryz.call164 Tryz.func164
def eW:Nat→Zk×Zj:=@Nat.rec (fun _=>(cL×bz×(Zb)×Int×Int×Bool×(Zc)×Unit×(Zf)×(Zd)×(Zh)×Unit→Option ZZ)×(dr×Int×(Zn)×bz×(Zb)×Int×Int×Bool×(Zc)×Unit×(Zf)×(Zd)×(Zh)×Unit→Option (Bool×dr×Int×Zt))) (fun _=>none,fun _=>none) (fun _ ih=>(fun d=>je ih.1 ih.2 d.1 d.2.1 d.2.2.1 d.2.2.2.1 d.2.2.2.2.1 d.2.2.2.2.2.1 d.2.2.2.2.2.2.1 d.2.2.2.2.2.2.2.1 d.2.2.2.2.2.2.2.2.1 d.2.2.2.2.2.2.2.2.2.1 d.2.2.2.2.2.2.2.2.2.2.1,fun d=>jv ih.1 ih.2 d.1 d.2.1 d.2.2.1 d.2.2.2.1 d.2.2.2.2.1 d.2.2.2.2.2.1 d.2.2.2.2.2.2.1 d.2.2.2.2.2.2.2.1 d.2.2.2.2.2.2.2.2.1 d.2.2.2.2.2.2.2.2.2.1 d.2.2.2.2.2.2.2.2.2.2.1 d.2.2.2.2.2.2.2.2.2.2.2.1 d.2.2.2.2.2.2.2.2.2.2.2.2.1))
theorem JM(n:Nat):hS (vE ((eW n).1))∧hS (qf ((eW n).2)):=by
 induction n with
 |zero=>exact⟨aZ.XM,aZ.XM⟩
 |succ n ih=>exact⟨UM _ _ ih.1 ih.2,RE _ _ ih.1 ih.2⟩
def lV(a0:cL)(a1:bz)(a2:Zb)(a3:Int)(a4:Int)(a5:Bool)(a6:Zc)(a7:Unit)(a8:Zf)(a9:Zd)(a10:Zh):Option ZZ:=(eW iZ).1 (a0,a1,a2,a3,a4,a5,a6,a7,a8,a9,a10,())
def RI:aZ:=aG G [.cell 4 79] 62 [pP 0,.val aJ] IU 115 Er [0,1,2,93] (.bq (MW lV))
theorem RJ:hS RI:=(JM iZ).1
end Go.Proofs.YtpmlkhjpbjnagaaGreat
