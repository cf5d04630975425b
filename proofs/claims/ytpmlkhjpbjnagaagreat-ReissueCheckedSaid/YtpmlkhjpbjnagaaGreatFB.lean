/- part -/
import Derived.Test.YtpmlkhjpbjnagaaGreatUX
noncomputable section
namespace Go.Proofs.YtpmlkhjpbjnagaaGreat
open Go.Ax
def BZ(a0:Int)(a1:Int)(a2:bz)(a3:Zb)(a4:Int)(a5:Int)(a6:Bool)(a7:Zc)(a8:Unit)(a9:Ze)(a10:Zd)(a11:Zh):Option (Zl×Bool×Zn):=
 (u0 a0 a1 a2 a3 a4 a5 a6 a7 a8 a9 a10 a11).bind fun⟨a,b,c,d,e,f,g,h,i,j,k⟩=>if !a then(some (([]:Zl),false,b,c,d,e,f,g,h,i,j,k)) else((dL (a0,a1,0,()) b c d e f g h i j k).bind fun⟨m,n,o,p,q,r,s,t,u,l,v⟩=>some (l.2.2.1,l.2.2.2.1,m,n,o,p,q,r,s,t,u,v))
def aim:SS:=⟨23,63,[(6,.val (.slice 48 bp)),(7,vB)],[(0,fB 1 2 39),(1,.map aK eE),(2,.map aR .bool),(39,.row 110 40 aR)],[]⟩
def V0:aZ:=aF G [.tmp 6,.tmp 7] 60 [pP 0,vI,vI] IJ 63 aim [0,1,2,39] (.br (MO BZ))
theorem V1:hS V0:=
 cO (hR [hE 1 [cB 0 [(0,0),(1,1),(2,2),(3,3)] []],hE 3 [cB 1 [(0,0),(1,1),(2,2),(3,3)] [(93,34)]]]) (hq J7 (hq Ca hz)) aJ Tryz.call60 Tryz.func60
def sO:Nat→Zp×Zl×Int×Int×Zal→Option (cK (Zp×Zal) (Bool×Rz)):=aL fun rec4 ⟨e,c,b,a,f,g,h,i,j,k,l,m,n,o,p,q,r,d⟩=>if decide (a<b) then(if 0≤a then(if a<(c.length:Int) then((f52 (nth bp c a)).bind fun y5=>if d.length+1≤aH then(rec4 (e,c,b,bq (a+1),f,g,h,i,j,k,l,m,n,o,p,q,r,aX aK y5 true d)) else none) else none) else none) else(some (.brk (e,f,g,h,i,j,k,l,m,n,o,p,q,r,d)))
def xD:Nat→Zp×Int×Int×Zl×Zaf→Option (cK (Zp×Zaf) (cK Zag (cK Rz (Bool×Rz)))):=aL fun rec13 ⟨r,s,t,c,b,a,e,f,g,h,i,j,k,l,m,n,o,p,u,d,q⟩=>if decide (a<b) then(if 0≤a then(if a<(c.length:Int) then((f52 (nth bp c a)).bind fun y14=>if(aQ aK .bool y14 d)=true then(bU (bU (bU (some (false,e,f,g,h,i,j,k,l,m,n,o,p,q))))) else(rec13 (r,s,t,c,b,bq (a+1),e,f,g,h,i,j,k,l,m,n,o,p,u,d,q))) else none) else none) else(some (.brk (r,s,t,e,f,g,h,i,j,k,l,m,n,o,p,u,d,q)))
def zM:Nat→Zag→Option (cK Rz (Bool×Rz)):=aL fun rec8 ⟨ay,ax,aw,az,a0,a1,a2,a3,a4,a5,a6,a7,a8,a9,ba,bb,bc⟩=>if decide (aw<ax) then(aI (U:=Zag) (if 0≤aw then(if aw<(ay.length:Int) then(if !decide ((nth bC ay aw).1=(1:Int)) then(some (.brk (ay,ax,aw,az,a0,a1,a2,a3,a4,a5,a6,a7,a8,a9,ba,bb,bc))) else((BZ (nth bC ay aw).2.1 (nth bC ay aw).2.2.1 a2 a3 a4 a5 a6 a7 a8 a9 ba bc).bind fun⟨a,_,b,c,d,e,f,g,h,i,j,k⟩=>aI (U:=Zp×Zaf) (xD (Int.toNat (a.length:Int)+1) (ay,ax,aw,a,(a.length:Int),0,az,a0,a1,b,c,d,e,f,g,h,i,j,nth bC ay aw,bb,k)) fun⟨l,m,n,o,p,q,r,s,t,u,v,w,x,y,z,aa,ab,ac⟩=>some (.brk (l,m,n,o,p,q,r,s,t,u,v,w,x,y,z,iU aK (aa.2.1,aa.2.2.1,aa.2.2.2.1,()) ab,ac)))) else none) else none) fun⟨ad,ae,af,ag,ah,ai,aj,ak,al,am,an,ao,ap,aq,ar,au,av⟩=>rec8 (ad,ae,bq (af+1),ag,ah,ai,aj,ak,al,am,an,ao,ap,aq,ar,au,av)) else(some (.brk (az,a0,a1,a2,a3,a4,a5,a6,a7,a8,a9,ba,bc)))
def sP(a0:Zp)(a1:Zg)(a2:Zg)(a3:Zf)(a4:bz)(a5:Zb)(a6:Int)(a7:Int)(a8:Bool)(a9:Zc)(a10:Unit)(a11:Ze)(a12:Zd)(a13:Zh):Option (Bool×Rz):=
 aI (U:=Zp×Zal) ((pF a1 a2 a3 a4 a5 a6 a7 a8 a9 a10 a11 a12 a13).bind fun⟨a,b,c,d,e,f,g,h,i,j,k,l,m,n⟩=>sO (Int.toNat (a.length:Int)+1) (a0,a,(a.length:Int),0,b,c,d,e,f,g,h,i,j,k,l,m,n,([]:List (cM×Bool)))) fun⟨o,p,q,r,s,t,u,v,w,x,y,z,aa,ac,ab⟩=>aI (U:=Rz) (zM (Int.toNat (o.length:Int)+1) (o,(o.length:Int),0,p,q,r,s,t,u,v,w,x,y,z,aa,ab,ac)) fun⟨ad,ae,af,ag,ah,ai,aj,ak,al,am,an,ao,ap⟩=>some (true,ad,ae,af,ag,ah,ai,aj,ak,al,am,an,ao,ap)
def Z6:List (Nat×db):=[(0,.var uZ (.cons (.own 1) (.cons (.val (.map aK bp)) (.cons (.val (.map aK bp)) (.cons (pP 2) .nil))))),(1,.row 3 8 (.int .i64)),(2,fB 3 4 5),(3,.map aK eE),(4,.map aR .bool),(5,.row 110 40 aR),(30,.map aK .bool)]
def ain:SS:=⟨67,107,[tP 0 0,(1,.val (.slice 32 bC)),(5,.mp 30)],Z6,[]⟩
def Z7:List (Nat×db):=[(0,.var uZ (.cons (.own 1) (.cons (.val (.map aK bp)) (.cons (.val (.map aK bp)) (.cons (pP 2) .nil))))),(1,.row 3 8 (.int .i64)),(2,fB 3 4 60),(3,.map aK eE),(4,.map aR .bool),(25,bV bC),(30,.map aK .bool),(60,.row 110 40 aR)]
def aio:SS:=⟨67,107,[tP 0 0,(5,.mp 30),tP 9 25,(26,.val (.slice 32 bC)),tI 27,tI 28],Z7,[]⟩
def aip:SS:=⟨67,107,[tP 0 0,(5,.mp 30),(26,.val (.slice 32 bC)),tI 27,tI 28],[(0,.var uZ (.cons (.own 1) (.cons (.val (.map aK bp)) (.cons (.val (.map aK bp)) (.cons (pP 2) .nil))))),(1,.row 3 8 (.int .i64)),(2,fB 3 4 83),(3,.map aK eE),(4,.map aR .bool),(30,.map aK .bool),(83,.row 110 40 aR)],[]⟩
def aiq:SS:=⟨67,107,[],[(0,.var uZ (.cons (.own 1) (.cons (.val (.map aK bp)) (.cons (.val (.map aK bp)) (.cons (pP 2) .nil))))),(1,.row 3 8 (.int .i64)),(2,fB 3 4 85),(3,.map aK eE),(4,.map aR .bool),(85,.row 110 40 aR)],[]⟩
def air:SS:=⟨67,107,[tP 0 0,(1,.val (.slice 32 bC)),(5,.mp 30),(16,.val (.slice 48 bp)),tI 17,tI 18],Z6,[]⟩
def ais:SS:=⟨67,107,[tP 0 0,(5,.mp 30),(26,.val (.slice 32 bC)),tI 27,tI 28],[(0,.var uZ (.cons (.own 1) (.cons (.val (.map aK bp)) (.cons (.val (.map aK bp)) (.cons (pP 2) .nil))))),(1,.row 3 8 (.int .i64)),(2,fB 3 4 84),(3,.map aK eE),(4,.map aR .bool),(30,.map aK .bool),(84,.row 110 40 aR)],[]⟩
def ait:SS:=⟨67,107,[tP 0 0,(5,.mp 30),tP 9 25,(26,.val (.slice 32 bC)),tI 27,tI 28,(47,.val (.slice 48 bp)),tI 48,tI 49],Z7,[]⟩
def aiu:SS:=⟨67,107,[(4,vB)],[(0,.var uZ (.cons (.own 1) (.cons (.val (.map aK bp)) (.cons (.val (.map aK bp)) (.cons (pP 2) .nil))))),(1,.row 3 8 (.int .i64)),(2,fB 3 4 86),(3,.map aK eE),(4,.map aR .bool),(86,.row 110 40 aR)],[]⟩
def V2:aZ:=aF G [.tmp 4] 36 [pP 0,.val (.slice 32 bC)] WC 107 aiu [0,1,2,3,4,86] (.br (UK sP))
theorem GJ:hS V2:=
 cO ⟨[hE 2 [cB 0 [(0,0),(1,1),(2,2),(3,3),(4,4),(5,5)] []],hA 5 1,hE 11 [cB 2 [(0,2),(1,3),(2,4),(3,84)] [(39,60)]],hA 15 1],[(7,ain),(18,aio),(19,aip),(20,aiq)],[],[(3,⟨air,fun u3=>Int.toNat u3.2.2.1+1⟩),(8,⟨ais,fun u7=>Int.toNat u7.2.1+1⟩),(13,⟨ait,fun MO=>Int.toNat MO.2.2.2.2.1+1⟩)],[],[]⟩ (hq Gj (hq XS (hq V1 hz))) aJ Tryz.call36 Tryz.func36
def GK(a0:bz)(a1:Zf)(a2:Int)(a3:Int)(a4:Int)(a5:Zp):Zm:=
 (fV a0 a1 a2 a3 a4).bind fun⟨a,b,e,f,g,h,i,j,k,c,d,n,l,m⟩=>if a=true then((pK b c d a5).bind fun y2=>if y2=true then((j5 b c d a5).bind fun y3=>if y3=true then((sP a5 c d b e f g h i j k l m n).bind fun⟨o,_,_,_,_,_,_,_,_,_,_,_,_,_⟩=>some o) else(some false)) else(some false)) else(some false)
def JX:SS:=⟨39,79,[(12,vB)],[],[]⟩
def V3:aZ:=aF G [.tmp 12] 11 [.val fE,.val (.slice 8 (.int .i64)),vI,vI,vI,.val (.slice 32 bC)] [] 79 JX [] (.br (u6 GK))
theorem V4:hS V3:=
 cO (hR [hE 1 [cB 0 [] [(41,36),(45,55),(47,56),(82,57),(88,58),(89,59)]],hE 2 [⟨[1],[],[],[],[36,55,57]⟩,⟨[2],[],[],[],[36,55,57]⟩,cB 3 [(0,56),(1,36),(2,55),(3,58),(4,59),(5,57)] [(86,53)]]]) (hq pw (hq Gr (hq AR (hq GJ hz)))) aJ Tryz.call11 Tryz.func11
def B0(_a0:Zp):Zm:=
 none
def aiv:SS:=⟨37,77,[(4,vB)],[],[]⟩
def V5:aZ:=aF G [.tmp 4] 34 [.eM,.val (.slice 32 bC)] [] 77 aiv [] (.br (u1 B0))
theorem GL:hS V5:=
 cO (hR [(0,⟨[],[],[],none,[(0,9999)],[],[]⟩)]) hz aJ Tryz.call34 Tryz.func34
def B1(_a0:Zp):Zm:=
 none
def aiw:SS:=⟨87,127,[(4,vB)],[],[]⟩
def V6:aZ:=aF G [.tmp 4] 35 [.eM,.val (.slice 32 bC)] [] 127 aiw [] (.br (u1 B1))
theorem GM:hS V6:=
 cO (hR [(0,⟨[],[],[],none,[(0,9999)],[],[]⟩)]) hz aJ Tryz.call35 Tryz.func35
def B2(_a0:Zp):Zm:=
 none
def aix:SS:=⟨67,107,[(4,vB)],[],[]⟩
def V7:aZ:=aF G [.tmp 4] 36 [.eM,.val (.slice 32 bC)] [] 107 aix [] (.br (u1 B2))
theorem GN:hS V7:=
 cO (hR [(0,⟨[],[],[],none,[(0,9999)],[],[]⟩)]) hz aJ Tryz.call36 Tryz.func36
def GO(a0:bz)(a1:Zf)(a2:Int)(a3:Int)(a4:Int)(a5:Zp):Zm:=
 (ja a0 a1 a2 a3 a4).bind fun y1=>Option.bind (α:=Bool) (if y1=true then((B0 a5).bind fun y2=>if y2=true then((B1 a5).bind fun y3=>if y3=true then((B2 a5).bind fun y4=>some y4) else(some false)) else(some false)) else(some false)) fun v5=>some v5
def V8:aZ:=aF G [.tmp 12] 11 [.val fE,.val (.slice 8 (.int .i64)),vI,vI,vI,.val (.slice 32 bC)] [] 79 JX [] (.br (u6 GO))
theorem V9:hS V8:=
 cO (hR [hA 1 0,hD 2 12 [cA 1,cA 2,cA 3]]) (hq pJ (hq GL (hq GM (hq GN hz)))) aJ Tryz.call11 Tryz.func11
def f11(a0:bz)(a1:Zf)(a2:Int)(a3:Int)(a4:Int)(a5:Zp):Zm:=
 Pe (GK a0 a1 a2 a3 a4 a5) (GO a0 a1 a2 a3 a4 a5)
def c11:aZ:=aF G [.tmp 12] 11 [.val fE,.val (.slice 8 (.int .i64)),vI,vI,vI,.val (.slice 32 bC)] [] 79 JX [] (.br (u6 f11))
theorem x11:hS c11:=aZ.or V4 V9
def Nq(a0:bz)(a1:Zf)(a2:Int)(a3:Int)(a4:Int):Zm:=
 (fV a0 a1 a2 a3 a4).bind fun⟨a,b,e,f,g,h,i,j,k,c,d,n,l,m⟩=>if a=true then((pK b c d ([]:Zp)).bind fun y2=>if y2=true then((j5 b c d ([]:Zp)).bind fun y3=>if y3=true then((sP ([]:Zp) c d b e f g h i j k l m n).bind fun⟨o,_,_,_,_,_,_,_,_,_,_,_,_,_⟩=>some o) else(some false)) else(some false)) else(some false)
def Wa:aZ:=aF G [.tmp 12] 11 [.val fE,.val (.slice 8 (.int .i64)),vI,vI,vI,.bn] [] 79 JX [] (.br (u5 Nq))
theorem Wb:hS Wa:=
 cO (hR [hE 1 [cB 0 [] [(41,36),(45,55),(47,56),(82,57),(88,58),(89,59)]],hE 2 [⟨[1],[],[],[],[36,55,57]⟩,⟨[2],[],[],[],[36,55,57]⟩,cB 3 [(0,56),(1,36),(2,55),(3,58),(4,59),(5,57)] [(86,53)]]]) (hq pw (hq Gr (hq AR (hq GJ hz)))) aJ Tryz.call11 Tryz.func11
def Nr(a0:bz)(a1:Zf)(a2:Int)(a3:Int)(a4:Int):Zm:=
 (ja a0 a1 a2 a3 a4).bind fun y1=>Option.bind (α:=Bool) (if y1=true then((B0 ([]:Zp)).bind fun y2=>if y2=true then((B1 ([]:Zp)).bind fun y3=>if y3=true then((B2 ([]:Zp)).bind fun y4=>some y4) else(some false)) else(some false)) else(some false)) fun v5=>some v5
def Wc:aZ:=aF G [.tmp 12] 11 [.val fE,.val (.slice 8 (.int .i64)),vI,vI,vI,.bn] [] 79 JX [] (.br (u5 Nr))
theorem We:hS Wc:=
 cO (hR [hA 1 0,hD 2 12 [cA 1,cA 2,cA 3]]) (hq pJ (hq GL (hq GM (hq GN hz)))) aJ Tryz.call11 Tryz.func11
def GP(a0:bz)(a1:Zf)(a2:Int)(a3:Int)(a4:Int):Zm:=
 Pe (Nq a0 a1 a2 a3 a4) (Nr a0 a1 a2 a3 a4)
def Wf:aZ:=aF G [.tmp 12] 11 [.val fE,.val (.slice 8 (.int .i64)),vI,vI,vI,.bn] [] 79 JX [] (.br (u5 GP))
theorem Ns:hS Wf:=aZ.or Wb We
def Nt(a0:bz)(a1:Int)(a2:Int)(a3:Int):Zm:=
 (fV a0 ([]:Zf) a1 a2 a3).bind fun⟨a,b,e,f,g,h,i,j,k,c,d,n,l,m⟩=>if a=true then((pK b c d ([]:Zp)).bind fun y2=>if y2=true then((j5 b c d ([]:Zp)).bind fun y3=>if y3=true then((sP ([]:Zp) c d b e f g h i j k l m n).bind fun⟨o,_,_,_,_,_,_,_,_,_,_,_,_,_⟩=>some o) else(some false)) else(some false)) else(some false)
def Wg:SS:=⟨39,79,[(12,vB)],[],[]⟩
def Wh:aZ:=aF G [.tmp 12] 11 [.val fE,.bn,vI,vI,vI,.bn] [] 79 Wg [] (.br (u4 Nt))
theorem Wi:hS Wh:=
 cO (hR [hE 1 [cB 0 [] [(41,36),(45,55),(47,56),(82,57),(88,58),(89,59)]],hE 2 [⟨[1],[],[],[],[36,55,57]⟩,⟨[2],[],[],[],[36,55,57]⟩,cB 3 [(0,56),(1,36),(2,55),(3,58),(4,59),(5,57)] [(86,53)]]]) (hq pw (hq Gr (hq AR (hq GJ hz)))) aJ Tryz.call11 Tryz.func11
def Nu(a0:bz)(a1:Int)(a2:Int)(a3:Int):Zm:=
 (ja a0 ([]:Zf) a1 a2 a3).bind fun y1=>Option.bind (α:=Bool) (if y1=true then((B0 ([]:Zp)).bind fun y2=>if y2=true then((B1 ([]:Zp)).bind fun y3=>if y3=true then((B2 ([]:Zp)).bind fun y4=>some y4) else(some false)) else(some false)) else(some false)) fun v5=>some v5
def Wj:aZ:=aF G [.tmp 12] 11 [.val fE,.bn,vI,vI,vI,.bn] [] 79 Wg [] (.br (u4 Nu))
theorem Wl:hS Wj:=
 cO (hR [hA 1 0,hD 2 12 [cA 1,cA 2,cA 3]]) (hq pJ (hq GL (hq GM (hq GN hz)))) aJ Tryz.call11 Tryz.func11
def Nv(a0:bz)(a1:Int)(a2:Int)(a3:Int):Zm:=
 Pe (Nt a0 a1 a2 a3) (Nu a0 a1 a2 a3)
def Wm:aZ:=aF G [.tmp 12] 11 [.val fE,.bn,vI,vI,vI,.bn] [] 79 Wg [] (.br (u4 Nv))
theorem Wn:hS Wm:=aZ.or Wi Wl
def f7:Zm:=
 (f18).bind fun y1=>(f9 y1 [(3:Int)] (7:Int) (2:Int) (9:Int)).bind fun y2=>aI (U:=Zf×Zp×bz×Zl×Zp) (some (.brk ([(3:Int)],y2,y1,[(0,3,0,[(3:Int),(4:Int)],()),(1,3,0,[(3:Int),(4:Int)],())],[(1,1,3,0,()),(1,0,3,0,()),(2,0,3,0,()),(2,1,3,0,())]))) fun⟨d,a,c,e,b⟩=>(f19 a b).bind fun y4=>if !y4 then none else(if(2:Int)<(a.length:Int) then(if(0:Int)<(a.length:Int) then(if(1:Int)<(a.length:Int) then(if(3:Int)<(a.length:Int) then(if(1:Int)<(a.length:Int) then(if(0:Int)<(a.length:Int) then(if(2:Int)<(a.length:Int) then(if(3:Int)<(a.length:Int) then(if(1:Int)≤(a.length:Int) then((f13 c d (7:Int) (2:Int) (9:Int) (nQ a 0 (Int.toNat (1:Int)))).bind fun y5=>(f13 c d (7:Int) (2:Int) (9:Int) a).bind fun y6=>aI (U:=Zf×Zl×Zl) (Option.bind (α:=Bool) ((f15 c d (7:Int) (2:Int) (9:Int)).bind fun y8=>(f20 y8 e).bind fun y9=>if !y9 then(some true) else((Nc c (7:Int) (2:Int) (9:Int)).bind fun y10=>if !decide ((y10.length:Int)=(0:Int)) then(some true) else((f15 c d (7:Int) (2:Int) (8:Int)).bind fun y11=>if !decide ((y11.length:Int)=(0:Int)) then(some true) else((f11 c d (7:Int) (2:Int) (9:Int) a).bind fun y12=>if !y12 then(some true) else((f11 c d (7:Int) (2:Int) (9:Int) [nth bC a (2:Int),nth bC a (0:Int),nth bC a (1:Int),nth bC a (3:Int)]).bind fun y13=>if y13=true then(some true) else((f11 c d (7:Int) (2:Int) (9:Int) [nth bC a (1:Int),nth bC a (0:Int),nth bC a (2:Int),nth bC a (3:Int)]).bind fun y14=>if y14=true then(some true) else((GP c d (7:Int) (2:Int) (8:Int)).bind fun y15=>some (!y15)))))))) fun v16=>if v16=true then none else(some (.brk (d,y5,y6)))) fun⟨h,f,g⟩=>Option.bind (α:=Bool) (if decide ((f.length:Int)=(3:Int)) then(if(1:Int)<(f.length:Int) then(if(1:Int)<(List.length (nth bp f (1:Int)).2.2.2.1:Int) then(if decide ((nth (.int .i64) (nth bp f (1:Int)).2.2.2.1 (1:Int))=(4:Int)) then(if(2:Int)<(f.length:Int) then(if(1:Int)<(List.length (nth bp f (2:Int)).2.2.2.1:Int) then(if decide ((nth (.int .i64) (nth bp f (2:Int)).2.2.2.1 (1:Int))=(5:Int)) then(if decide ((g.length:Int)=(2:Int)) then(if(0:Int)<(g.length:Int) then(if(1:Int)<(List.length (nth bp g (0:Int)).2.2.2.1:Int) then(if decide ((nth (.int .i64) (nth bp g (0:Int)).2.2.2.1 (1:Int))=(5:Int)) then((f9 (((([]:ZM),([]:Zw),([]:ZG),([]:Zo),([]:ZJ),([]:ZE),()),([]:Zf),()),([]:Zz),()) h (0:Int) (1:Int) (2:Int)).bind fun y17=>if decide ((y17.length:Int)=(0:Int)) then((Nv (((([]:ZM),([]:Zw),([]:ZG),([]:Zo),([]:ZJ),([]:ZE),()),([]:Zf),()),([]:Zz),()) (0:Int) (1:Int) (2:Int)).bind fun y18=>some (!y18)) else(some false)) else(some false)) else none) else none) else(some false)) else(some false)) else none) else none) else(some false)) else none) else none) else(some false)) fun v19=>some v19) else none) else none) else none) else none) else none) else none) else none) else none) else none)
def aiy:SS:=⟨155,195,[tP 1 17,(2,.val (.slice 8 (.int .i64))),(3,.own 32),(4,.val (.slice 32 bC)),(5,.own 40)],[(17,bV fE),(32,.row 50 48 bp),(40,.row 44 32 bC)],[]⟩
def aiz:SS:=⟨155,195,[(2,.val (.slice 8 (.int .i64))),(8,.val (.slice 48 bp)),(9,.val (.slice 48 bp))],[],[]⟩
def aiA:SS:=⟨155,195,[(0,vB)],[],[]⟩
def c7:aZ:=aF G [.tmp 0] 7 [] [] 195 aiA [] (.br (fun _=>f7))
theorem x7:hS c7:=
 cO ⟨[hA 1 0,(3,⟨[],[(4,13,bp),(4,15,bp)],[],none,[],[],[]⟩),(4,⟨[.freeze 27 (.slice 8 (.int .i64))],[],[⟨[1],[],[],[],[]⟩],none,[],[],[]⟩),hA 6 2,(7,⟨[],[],[],none,[(0,9999)],[],[]⟩),hA 10 3,hA 11 3,hD 12 107 [cA 4,cA 5,cA 6,cA 4,cA 7,cA 7,cA 7,cA 8],(13,⟨[],[],[],none,[(0,9999)],[],[]⟩),hD 14 0 [cA 1,cA 9]],[(6,aiy),(14,aiz)],[],[],[],[]⟩ (hq x18 (hq x9 (hq x19 (hq x13 (hq x15 (hq x20 (hq Vt (hq x11 (hq Ns (hq Wn hz)))))))))) aJ Tryz.call7 Tryz.func7
def IH:Zaq:=aL fun amb ⟨a,b⟩=>if decide (a<(b.2.2.1.length:Int)) then(Option.bind (α:=Bool) (if 0≤a then(if a<(b.2.2.1.length:Int) then(if decide ((6:Int)<(List.length (nth bF b.2.2.1 a).2.2.2.2.1:Int)) then(some true) else(if 0≤a then(if a<(b.2.2.1.length:Int) then(some (decide ((4:Int)<(List.length (nth bF b.2.2.1 a).2.2.2.2.2.1:Int)))) else none) else none)) else none) else none) fun v4=>if v4=true then(bU (some false)) else(amb (bq (a+1),b))) else(some (.brk b))
def II:Zaq:=aL fun rec7 ⟨a,b⟩=>if decide (a<(b.2.2.2.1.length:Int)) then(Option.bind (α:=Bool) (if 0≤a then(if a<(b.2.2.2.1.length:Int) then(if decide ((4:Int)<(List.length (nth bG b.2.2.2.1 a).2.2.1:Int)) then(some true) else(if 0≤a then(if a<(b.2.2.2.1.length:Int) then(if decide ((5:Int)<(List.length (nth bG b.2.2.2.1 a).2.2.2.1:Int)) then(some true) else(if 0≤a then(if a<(b.2.2.2.1.length:Int) then(some (decide ((6:Int)<(List.length (nth bG b.2.2.2.1 a).2.2.2.2.1:Int)))) else none) else none)) else none) else none)) else none) else none) fun v8=>if v8=true then(bU (some false)) else(rec7 (bq (a+1),b))) else(some (.brk b))
def Eb:Zaq:=aL fun rec11 ⟨a,b⟩=>if decide (a<(b.2.2.2.2.1.length:Int)) then(if 0≤a then(if a<(b.2.2.2.2.1.length:Int) then(if decide ((6:Int)<(List.length (nth gr b.2.2.2.2.1 a).2.2.2.2.1:Int)) then(bU (some false)) else(rec11 (bq (a+1),b))) else none) else none) else(some (.brk b))
def Ec:Zaq:=aL fun rec14 ⟨a,b⟩=>if decide (a<(b.2.2.2.2.2.1.length:Int)) then(if 0≤a then(if a<(b.2.2.2.2.2.1.length:Int) then(if decide ((10:Int)<(List.length (nth dJ b.2.2.2.2.2.1 a).2.1:Int)) then(bU (some false)) else(rec14 (bq (a+1),b))) else none) else none) else(some (.brk b))
def f108(a0:cp):Zm:=
 aI (U:=cp) (IH iw (0,a0)) fun v1=>aI (U:=cp) (II iw (0,v1)) fun v5=>aI (U:=cp) (Eb iw (0,v5)) fun v9=>aI (U:=cp) (Ec iw (0,v9)) fun v12=>Option.bind (α:=Bool) (if decide ((v12.1.length:Int)≤(4:Int)) then(if decide ((v12.2.1.length:Int)≤(5:Int)) then(if decide ((v12.2.2.1.length:Int)≤(6:Int)) then(if decide ((v12.2.2.2.1.length:Int)≤(4:Int)) then(if decide ((v12.2.2.2.2.1.length:Int)≤(4:Int)) then(some (decide ((v12.2.2.2.2.2.1.length:Int)≤(4:Int)))) else(some false)) else(some false)) else(some false)) else(some false)) else(some false)) fun v15=>some v15
def R7:SS:=⟨131,171,[tP 1 17],[(17,bV iJ)],[]⟩
def aiB:SS:=⟨131,171,[tP 1 17,tI 3],[(17,bV iJ)],[]⟩
def aiC:SS:=⟨131,171,[tP 1 17,tI 4],[(17,bV iJ)],[]⟩
def aiD:SS:=⟨131,171,[tP 1 17,tI 5],[(17,bV iJ)],[]⟩
def aiE:SS:=⟨131,171,[tP 1 17,tI 6],[(17,bV iJ)],[]⟩
def aiF:SS:=⟨131,171,[(2,vB)],[],[]⟩
def aiG:aZ:=aF G [.tmp 2] 108 [.val iJ] [] 171 aiF [] (.br (u1 f108))
theorem aiH:hS aiG:=
 cO ⟨[hD 4 31 [],hD 9 66 [],hD 21 2 []],[(6,R7),(11,R7),(16,R7),(21,R7)],[],[(2,⟨aiB,fun _=>iw⟩),(7,⟨aiC,fun _=>iw⟩),(12,⟨aiD,fun _=>iw⟩),(17,⟨aiE,fun _=>iw⟩)],[],[]⟩ hz aJ Tryz.call108 Tryz.func108
def f72(a0:B7):Zm:=
 Option.bind (α:=Bool) ((f108 a0.1).bind fun y1=>if y1=true then(some (decide ((a0.2.1.length:Int)≤(20:Int)))) else(some false)) fun v2=>some v2
def aiI:SS:=⟨12,52,[(2,vB)],[],[]⟩
def c72:aZ:=aF G [.tmp 2] 72 [.val Gg] [] 52 aiI [] (.br (u1 f72))
theorem x72:hS c72:=
 cO (hR [hD 1 2 [cA 0]]) (hq aiH hz) aJ Tryz.call72 Tryz.func72
def f49(a0:bz):Zm:=
 Option.bind (α:=Bool) ((f72 a0.1).bind fun y1=>if y1=true then(some (decide ((a0.2.1.length:Int)≤(60:Int)))) else(some false)) fun v2=>some v2
def aiJ:SS:=⟨12,52,[(2,vB)],[],[]⟩
def c49:aZ:=aF G [.tmp 2] 49 [.val fE] [] 52 aiJ [] (.br (u1 f49))
theorem x49:hS c49:=
 cO (hR [hD 1 2 [cA 0]]) (hq x72 hz) aJ Tryz.call49 Tryz.func49
def Nw:Nat→Int×bz×cp→Option (cK (bz×cp) Bool):=aL fun amb ⟨a,c,b⟩=>if decide (a<(b.2.2.2.1.length:Int)) then(if 0≤a then(if a<(b.2.2.2.1.length:Int) then(if decide ((3:Int)<(List.length (nth bG b.2.2.2.1 a).2.2.1:Int)) then(bU (some false)) else(amb (bq (a+1),c,b))) else none) else none) else(some (.brk (c,b)))
def f21(a0:bz):Zm:=
 aI (U:=bz×cp) (Nw iw (0,a0,a0.1.1)) fun⟨a,b⟩=>Option.bind (α:=Bool) ((f49 a).bind fun y4=>if y4=true then(if decide ((b.2.2.1.length:Int)≤(6:Int)) then(some (decide ((b.2.2.2.1.length:Int)≤(5:Int)))) else(some false)) else(some false)) fun v5=>some v5
def aiK:SS:=⟨37,77,[tP 1 17,tP 3 19],[(17,bV fE),(19,bV iJ)],[]⟩
def aiL:SS:=⟨37,77,[tP 1 17,tP 3 19,tI 4],[(17,bV fE),(19,bV iJ)],[]⟩
def aiM:SS:=⟨37,77,[(2,vB)],[],[]⟩
def c21:aZ:=aF G [.tmp 2] 21 [.val fE] [] 77 aiM [] (.br (u1 f21))
theorem x21:hS c21:=
 cO ⟨[hD 7 2 [cA 0]],[(7,aiK)],[],[(3,⟨aiL,fun _=>iw⟩)],[],[]⟩ (hq x49 hz) aJ Tryz.call21 Tryz.func21
def aiN:SS:=⟨19,59,[(6,vB)],[],[]⟩
def f16(a0:bz)(a1:Int)(a2:Int)(a3:Int):Option (Zl×Zh):=
 (f44 a0.1).bind fun y1=>(rE a0 a2 a3 (decide (y1=(0:Int)))).bind fun⟨a,b,c,d,e,f,g,h,i,j⟩=>(mY a1 a b c d e f g h i j).bind fun⟨k,_,_,_,_,_,_,_,_,_,l⟩=>some (k,l)
def aiO:SS:=⟨27,67,[(8,.val (.slice 48 bp)),(9,.val (.slice 40 aR))],[],[]⟩
def c16:aZ:=aF G [.tmp 8,.tmp 9] 16 [.val fE,vI,vI,vI] [] 67 aiO [] (.br (u4 f16))
theorem x16:hS c16:=
 cO (hR [hE 1 [cA 0,cB 1 [] [(75,34),(76,43),(77,44),(78,45)]],hE 2 [cB 2 [(0,34),(1,43),(2,44),(3,45)] [(70,37)]]]) (hq x44 (hq J6 (hq Ms hz))) aJ Tryz.call16 Tryz.func16
def Nx:Nat→Int×Int×Zf×Int×Int×bz×Zl→Option (cK Zl Zl):=aL fun amb ⟨f,g,d,c,b,e,h⟩=>if decide (b<c) then(if 0≤b then(if b<(d.length:Int) then((f16 e (nth (.int .i64) d b) f g).bind fun⟨a,_⟩=>if(List.length h+a.length)*48≤aH then(amb (f,g,d,c,bq (b+1),e,h++a)) else none) else none) else none) else(some (.brk h))
def f31(a0:bz)(a1:Zf)(a2:Int)(a3:Int):B8:=
 aI (U:=Zl) (Nx (Int.toNat (a1.length:Int)+1) (a2,a3,a1,(a1.length:Int),0,a0,([]:Zl))) fun v1=>some v1
def aiP:SS:=⟨32,72,[(8,.own 49)],[(49,.row 50 48 bp)],[]⟩
def aiQ:SS:=⟨32,72,[tI 2,tI 3,tP 4 20,(8,.own 48),(13,.val (.slice 8 (.int .i64))),tI 14,tI 15],[(20,bV fE),(48,.row 50 48 bp)],[]⟩
def aiR:SS:=⟨32,72,[(8,.val (.slice 48 bp))],[],[]⟩
def c31:aZ:=aF G [.tmp 8] 31 [.val fE,.val (.slice 8 (.int .i64)),vI,vI] [] 72 aiR [] (.br (u4 f31))
theorem x31:hS c31:=
 cO ⟨[hA 4 0],[(7,aiP)],[],[(2,⟨aiQ,fun u2=>Int.toNat u2.2.2.2.1+1⟩)],[],[]⟩ (hq x16 hz) aJ Tryz.call31 Tryz.func31
def GQ:Nat→Zl×Int×xX→Zs:=aL fun amb ⟨b,c,d,a⟩=>if decide (a<(b.length:Int)) then(Option.bind (α:=Bool) (if 0≤a then(if a<(b.length:Int) then(if decide ((nth bp b a).1=c) then(if 0≤a then(if a<(b.length:Int) then(some (decide ((nth bp b a).2.1=d))) else none) else none) else(some false)) else none) else none) fun v4=>if v4=true then(bU (some true)) else(amb (b,c,d,bq (a+1)))) else(some (.brk ()))
def f32(a0:Zl)(a1:Int)(a2:Int):Zm:=
 aI (U:=Unit) (GQ iw (a0,a1,a2,0)) fun _=>some false
def aiS:SS:=⟨30,70,[],[],[]⟩
def aiT:SS:=⟨30,70,[(0,.val (.slice 48 bp)),tI 1,tI 2,tI 7],[],[]⟩
def aiU:SS:=⟨30,70,[(6,vB)],[],[]⟩
def c32:aZ:=aF G [.tmp 6] 32 [.val (.slice 48 bp),vI,vI] [] 70 aiU [] (.br (u3 f32))
theorem x32:hS c32:=
 cO ⟨[hD 4 29 []],[(6,aiS)],[],[(2,⟨aiT,fun _=>iw⟩)],[],[]⟩ hz aJ Tryz.call32 Tryz.func32
def GR:Nat→Zl×Int×l7→Zs:=aL fun amb ⟨b,a,c⟩=>if decide (a<(b.length:Int)) then(if 0≤a then(if a<(b.length:Int) then((f42 (nth bp b a) c).bind fun y4=>if y4=true then(bU (some true)) else(amb (b,bq (a+1),c))) else none) else none) else(some (.brk ()))
def f14(a0:Zl)(a1:l7):Zm:=
 aI (U:=Unit) (GR iw (a0,0,a1)) fun _=>some false
def aiV:SS:=⟨18,58,[],[],[]⟩
def aiW:SS:=⟨18,58,[(0,.val (.slice 48 bp)),tP 3 19,tI 5],[(19,bV bp)],[]⟩
def aiX:SS:=⟨18,58,[(4,vB)],[],[]⟩
def c14:aZ:=aF G [.tmp 4] 14 [.val (.slice 48 bp),.val bp] [] 58 aiX [] (.br (u2 f14))
theorem ku:hS c14:=
 cO ⟨[hA 4 0],[(6,aiV)],[],[(2,⟨aiW,fun _=>iw⟩)],[],[]⟩ (hq x42 hz) aJ Tryz.call14 Tryz.func14
def Ny:Nat→Zl×Zl×xX→Zs:=aL fun amb ⟨d,c,b,a⟩=>if decide (a<b) then(if 0≤a then(if a<(c.length:Int) then((f14 d (nth bp c a)).bind fun y4=>if !y4 then(bU (some false)) else(amb (d,c,b,bq (a+1)))) else none) else none) else(some (.brk ()))
def f33(a0:Zl)(a1:Zl):Zm:=
 if !decide ((a0.length:Int)=(a1.length:Int)) then(some false) else(aI (U:=Unit) (Ny (Int.toNat (a0.length:Int)+1) (a1,a0,(a0.length:Int),0)) fun _=>some true)
def aiY:SS:=⟨23,63,[],[],[]⟩
def aiZ:SS:=⟨23,63,[(1,.val (.slice 48 bp)),(12,.val (.slice 48 bp)),tI 13,tI 14],[],[]⟩
def ai0:SS:=⟨23,63,[(4,vB)],[],[]⟩
def c33:aZ:=aF G [.tmp 4] 33 [.val (.slice 48 bp),.val (.slice 48 bp)] [] 63 ai0 [] (.br (u2 f33))
theorem x33:hS c33:=
 cO ⟨[hA 6 0],[(9,aiY)],[],[(4,⟨aiZ,fun u2=>Int.toNat u2.2.2.1+1⟩)],[],[]⟩ (hq ku hz) aJ Tryz.call33 Tryz.func33
def GS:ZU:=aL fun rec14 ⟨f,g,h,i,j,k,d,l,e,m,n,c,b,a,o⟩=>if decide (a<b) then(if 0≤a then(if a<(c.length:Int) then(Option.bind (α:=Bool) ((f32 d (nth bp c a).1 (nth bp c a).2.1).bind fun y15=>if y15=true then((f32 e (nth bp c a).1 (nth bp c a).2.1).bind fun y16=>some (!y16)) else(some false)) fun v17=>if v17=true then(bU (bU (bU (some false)))) else(rec14 (f,g,h,i,j,k,d,l,e,m,n,c,b,bq (a+1),o))) else none) else none) else(some (.brk (f,g,h,i,j,k,d,l,e,m,n,o)))
def B3:ZU:=aL fun rec20 ⟨f,g,h,i,j,d,e,k,l,m,n,c,b,a,o⟩=>if decide (a<b) then(if 0≤a then(if a<(c.length:Int) then(Option.bind (α:=Bool) ((f14 d (nth bp c a)).bind fun y21=>if !y21 then((f14 e (nth bp c a)).bind fun y22=>some (!y22)) else(some false)) fun v23=>if v23=true then(bU (bU (bU (some false)))) else(rec20 (f,g,h,i,j,d,e,k,l,m,n,c,b,bq (a+1),o))) else none) else none) else(some (.brk (f,g,h,i,j,d,e,k,l,m,n,o)))
def B4:Nat→Zf×Int×Int×Int×Zp×Zl×Zl×Int×Int×bz→Zs:=aL fun rec9 ⟨am,an,ao,ap,ak,aq,ar,aj,ai,al⟩=>if decide (ai<aj) then(aI (U:=Zf×Int×Int×Int×Zp×Zl×Zl×Int×Int×bz) (if 0≤ai then(if ai≤(ak.length:Int) then((f13 al am an ao ap (nQ ak 0 (Int.toNat ai))).bind fun y11=>aI (U:=Zf×Int×Int×Int×Zp×Zl×Zl×Int×Zl×Int×Int×bz) (GS (Int.toNat (aq.length:Int)+1) (am,an,ao,ap,ak,aq,ar,ai,y11,aj,ai,aq,(aq.length:Int),0,al)) fun⟨b,c,d,e,f,g,h,i,a,j,k,l⟩=>aI (U:=Zf×Int×Int×Int×Zp×Zl×Zl×Int×Zl×Int×Int×bz) (B3 (Int.toNat (a.length:Int)+1) (b,c,d,e,f,g,h,i,a,j,k,a,(a.length:Int),0,l)) fun⟨r,s,t,u,p,o,q,m,n,v,w,x⟩=>Option.bind (α:=Bool) (if decide (m=(0:Int)) then((f33 n o).bind fun y24=>if !y24 then(some true) else(if decide (m=(p.length:Int)) then((f33 n q).bind fun y25=>some (!y25)) else(some false))) else(if decide (m=(p.length:Int)) then((f33 n q).bind fun y26=>some (!y26)) else(some false))) fun v27=>if v27=true then(bU (bU (some false))) else(some (.brk (r,s,t,u,p,o,q,v,w,x)))) else none) else none) fun⟨y,z,aa,ab,ac,ad,ae,af,ag,ah⟩=>rec9 (y,z,aa,ab,ac,ad,ae,af,bq (ag+1),ah)) else(some (.brk ()))
def f10(a0:bz)(a1:Zf)(a2:Int)(a3:Int)(a4:Int)(a5:Zp)(a6:Bool):Zm:=
 (f11 a0 a1 a2 a3 a4 a5).bind fun y1=>if !y1 then(Option.bind (α:=Bool) (if !a6 then(some true) else(if decide ((a5.length:Int)=(0:Int)) then((f15 a0 a1 a2 a3 a4).bind fun y2=>if decide ((y2.length:Int)=(0:Int)) then((GP a0 a1 a2 a3 a3).bind fun y3=>some (!y3)) else(some false)) else(some false))) fun v4=>some v4) else((f31 a0 a1 a2 a3).bind fun y5=>(f31 a0 a1 a2 a4).bind fun y6=>aI (U:=Unit) (B4 (Int.toNat (bq ((a5.length:Int)+(1:Int)))+1) (a1,a2,a3,a4,a5,y5,y6,bq ((a5.length:Int)+(1:Int)),0,a0)) fun _=>some true)
def Z8:SS:=⟨142,182,[(1,.val (.slice 8 (.int .i64))),tI 2,tI 3,tI 4,(5,.val (.slice 32 bC)),tP 7 23,(15,.val (.slice 48 bp)),(16,.val (.slice 48 bp)),tI 17,(18,.val (.slice 48 bp)),tI 69,tI 70],[(23,bV fE)],[]⟩
def Z9:SS:=⟨142,182,[(1,.val (.slice 8 (.int .i64))),tI 2,tI 3,tI 4,(5,.val (.slice 32 bC)),tP 7 23,(15,.val (.slice 48 bp)),(16,.val (.slice 48 bp)),tI 69,tI 70],[(23,bV fE)],[]⟩
def ai1:SS:=⟨142,182,[],[],[]⟩
def ai2:SS:=⟨142,182,[(1,.val (.slice 8 (.int .i64))),tI 2,tI 3,tI 4,(5,.val (.slice 32 bC)),tP 7 23,(15,.val (.slice 48 bp)),(16,.val (.slice 48 bp)),tI 17,(18,.val (.slice 48 bp)),tI 69,tI 70,(82,.val (.slice 48 bp)),tI 83,tI 84],[(23,bV fE)],[]⟩
def ai3:SS:=⟨142,182,[(1,.val (.slice 8 (.int .i64))),tI 2,tI 3,tI 4,(5,.val (.slice 32 bC)),tP 7 23,(15,.val (.slice 48 bp)),(16,.val (.slice 48 bp)),tI 17,(18,.val (.slice 48 bp)),tI 69,tI 70,(104,.val (.slice 48 bp)),tI 105,tI 106],[(23,bV fE)],[]⟩
def ai4:SS:=⟨142,182,[(14,vB)],[],[]⟩
def c10:aZ:=aF G [.tmp 14] 10 [.val fE,.val (.slice 8 (.int .i64)),vI,vI,vI,.val (.slice 32 bC),vB] [] 182 ai4 [] (.br (u7 f10))
theorem Wo:hS c10:=
 cO ⟨[hA 1 0,hD 2 14 [cA 1,cA 2],hE 3 [cA 3,cA 3],hA 7 4,hD 11 102 [cA 5,cA 5],hD 17 119 [cA 6,cA 6],hD 20 140 [cA 7,cA 7]],[(14,Z8),(20,Z8),(22,Z9),(23,ai1)],[],[(5,⟨Z9,fun u8=>Int.toNat u8.2.2.2.2.2.2.2.1+1⟩),(9,⟨ai2,fun IB=>Int.toNat IB.2.2.2.2.2.2.2.2.2.2.2.2.1+1⟩),(15,⟨ai3,fun u19=>Int.toNat u19.2.2.2.2.2.2.2.2.2.2.2.2.1+1⟩)],[],[]⟩ (hq x11 (hq x15 (hq Ns (hq x31 (hq x13 (hq x32 (hq ku (hq x33 hz)))))))) aJ Tryz.call10 Tryz.func10
def f8(a0:bz)(a1:Zf)(a2:Zp):Zm:=
 Option.bind (α:=Bool) ((f21 a0).bind fun y1=>if y1=true then(if decide ((a1.length:Int)≤(4:Int)) then(some (decide ((a2.length:Int)≤(30:Int)))) else(some false)) else(some false)) fun v2=>some v2
def c8:aZ:=aF G [.tmp 6] 8 [.val fE,.val (.slice 8 (.int .i64)),.val (.slice 32 bC)] [] 59 aiN [] (.br (u3 f8))
theorem x8:hS c8:=
 cO (hR [hD 1 6 [cA 0]]) (hq x21 hz) aJ Tryz.call8 Tryz.func8
def f4(a0:bz)(a1:Zf)(a2:Int)(a3:Int)(a4:Int)(a5:Zp):Zm:=
 (f7).bind fun y1=>if !y1 then(some false) else((f8 a0 a1 a5).bind fun y2=>if !y2 then(some true) else((f10 a0 a1 a2 a3 a4 a5 false).bind fun y3=>some y3))
def ai6:SS:=⟨27,67,[(12,vB)],[],[]⟩
def c4:aZ:=aF G [.tmp 12] 4 [.val fE,.val (.slice 8 (.int .i64)),vI,vI,vI,.val (.slice 32 bC)] [] 67 ai6 [] (.br (fun d=>f4 d.1 d.2.1 d.2.2.1 d.2.2.2.1 d.2.2.2.2.1 d.2.2.2.2.2.1))
theorem x4:hS c4:=
 cO (hR [hA 1 0,hA 3 1,hA 5 2]) (hq x7 (hq x8 (hq Wo hz))) aJ Tryz.call4 Tryz.func4
end Go.Proofs.YtpmlkhjpbjnagaaGreat
