/- part -/
import Derived.Test.YtpmlkhjpbjnagaaGreatUX
noncomputable section
namespace Go.Proofs.YtpmlkhjpbjnagaaGreat
open Go.Ax
def Cg(a0:Int)(a1:Int)(a2:bz)(a3:Zb)(a4:Int)(a5:Int)(a6:Bool)(a7:Zc)(a8:Unit)(a9:Zf)(a10:Zd)(a11:Zh):Option (Zl×Bool×Zn):=
 (vK a0 a1 a2 a3 a4 a5 a6 a7 a8 a9 a10 a11).bind fun⟨a,b,c,d,e,f,g,h,i,j,k⟩=>if !a then(some (([]:Zl),false,b,c,d,e,f,g,h,i,j,k)) else((dO (a0,a1,0,()) b c d e f g h i j k).bind fun⟨m,n,o,p,q,r,s,t,u,l,v⟩=>some (l.2.2.1,l.2.2.2.1,m,n,o,p,q,r,s,t,u,v))
def aiN:SS:=⟨23,63,[(6,.val (.slice 48 bp)),(7,vB)],[(0,fB 1 2 39),(1,.map aK eF),(2,.map aR .bool),(39,.row 110 40 aR)],[]⟩
def Wu:bh:=aF G [.tmp 6,.tmp 7] 60 [pP 0,vI,vI] Jc 63 aiN [0,1,2,39] (.br (Ns Cg))
theorem Wv:hS Wu:=
 cO (hR [hE 1 [cB 0 [(0,0),(1,1),(2,2),(3,3)] []],hE 3 [cB 1 [(0,0),(1,1),(2,2),(3,3)] [(93,34)]]]) (hq Kw (hq Cv hz)) aJ Tryz.call60 Tryz.func60
def tx:Nat→Zp×Zl×Int×Int×Zal→Option (cL (Zp×Zal) (Bool×Sl)):=aL fun rec4 ⟨e,c,b,a,f,g,h,i,j,k,l,m,n,o,p,q,r,d⟩=>if decide (a<b) then(if 0≤a then(if a<(c.length:Int) then((f52 (nth bp c a)).bind fun y5=>if d.length+1≤aH then(rec4 (e,c,b,bq (a+1),f,g,h,i,j,k,l,m,n,o,p,q,r,aZ aK y5 true d)) else none) else none) else none) else(some (.brk (e,f,g,h,i,j,k,l,m,n,o,p,q,r,d)))
def xY:Nat→Zp×Int×Int×Zl×Zaf→Option (cL (Zp×Zaf) (cL Zag (cL Sl (Bool×Sl)))):=aL fun rec13 ⟨r,s,t,c,b,a,e,f,g,h,i,j,k,l,m,n,o,p,u,d,q⟩=>if decide (a<b) then(if 0≤a then(if a<(c.length:Int) then((f52 (nth bp c a)).bind fun y14=>if(aP aK .bool y14 d)=true then(bU (bU (bU (some (false,e,f,g,h,i,j,k,l,m,n,o,p,q))))) else(rec13 (r,s,t,c,b,bq (a+1),e,f,g,h,i,j,k,l,m,n,o,p,u,d,q))) else none) else none) else(some (.brk (r,s,t,e,f,g,h,i,j,k,l,m,n,o,p,u,d,q)))
def Ag:Nat→Zag→Option (cL Sl (Bool×Sl)):=aL fun rec8 ⟨ay,ax,aw,az,a0,a1,a2,a3,a4,a5,a6,a7,a8,a9,ba,bb,bc⟩=>if decide (aw<ax) then(aI (U:=Zag) (if 0≤aw then(if aw<(ay.length:Int) then(if !decide ((nth bD ay aw).1=(1:Int)) then(some (.brk (ay,ax,aw,az,a0,a1,a2,a3,a4,a5,a6,a7,a8,a9,ba,bb,bc))) else((Cg (nth bD ay aw).2.1 (nth bD ay aw).2.2.1 a2 a3 a4 a5 a6 a7 a8 a9 ba bc).bind fun⟨a,_,b,c,d,e,f,g,h,i,j,k⟩=>aI (U:=Zp×Zaf) (xY (Int.toNat (a.length:Int)+1) (ay,ax,aw,a,(a.length:Int),0,az,a0,a1,b,c,d,e,f,g,h,i,j,nth bD ay aw,bb,k)) fun⟨l,m,n,o,p,q,r,s,t,u,v,w,x,y,z,aa,ab,ac⟩=>some (.brk (l,m,n,o,p,q,r,s,t,u,v,w,x,y,z,iZ aK (aa.2.1,aa.2.2.1,aa.2.2.2.1,()) ab,ac)))) else none) else none) fun⟨ad,ae,af,ag,ah,ai,aj,ak,al,am,an,ao,ap,aq,ar,au,av⟩=>rec8 (ad,ae,bq (af+1),ag,ah,ai,aj,ak,al,am,an,ao,ap,aq,ar,au,av)) else(some (.brk (az,a0,a1,a2,a3,a4,a5,a6,a7,a8,a9,ba,bc)))
def tA(a0:Zp)(a1:Zg)(a2:Zg)(a3:Ze)(a4:bz)(a5:Zb)(a6:Int)(a7:Int)(a8:Bool)(a9:Zc)(a10:Unit)(a11:Zf)(a12:Zd)(a13:Zh):Option (Bool×Sl):=
 aI (U:=Zp×Zal) ((nJ a1 a2 a3 a4 a5 a6 a7 a8 a9 a10 a11 a12 a13).bind fun⟨a,b,c,d,e,f,g,h,i,j,k,l,m,n⟩=>tx (Int.toNat (a.length:Int)+1) (a0,a,(a.length:Int),0,b,c,d,e,f,g,h,i,j,k,l,m,n,([]:List (cN×Bool)))) fun⟨o,p,q,r,s,t,u,v,w,x,y,z,aa,ac,ab⟩=>aI (U:=Sl) (Ag (Int.toNat (o.length:Int)+1) (o,(o.length:Int),0,p,q,r,s,t,u,v,w,x,y,z,aa,ab,ac)) fun⟨ad,ae,af,ag,ah,ai,aj,ak,al,am,an,ao,ap⟩=>some (true,ad,ae,af,ag,ah,ai,aj,ak,al,am,an,ao,ap)
def aaw:List (Nat×de):=[(0,.var vJ (.cons (.own 1) (.cons (.val (.map aK bp)) (.cons (.val (.map aK bp)) (.cons (pP 2) .nil))))),(1,.row 3 8 (.int .i64)),(2,fB 3 4 5),(3,.map aK eF),(4,.map aR .bool),(5,.row 110 40 aR),(30,.map aK .bool)]
def aiO:SS:=⟨67,107,[tP 0 0,(1,.val (.slice 32 bD)),(5,.mp 30)],aaw,[]⟩
def aax:List (Nat×de):=[(0,.var vJ (.cons (.own 1) (.cons (.val (.map aK bp)) (.cons (.val (.map aK bp)) (.cons (pP 2) .nil))))),(1,.row 3 8 (.int .i64)),(2,fB 3 4 60),(3,.map aK eF),(4,.map aR .bool),(25,bV bD),(30,.map aK .bool),(60,.row 110 40 aR)]
def aiP:SS:=⟨67,107,[tP 0 0,(5,.mp 30),tP 9 25,(26,.val (.slice 32 bD)),tI 27,tI 28],aax,[]⟩
def aiQ:SS:=⟨67,107,[tP 0 0,(5,.mp 30),(26,.val (.slice 32 bD)),tI 27,tI 28],[(0,.var vJ (.cons (.own 1) (.cons (.val (.map aK bp)) (.cons (.val (.map aK bp)) (.cons (pP 2) .nil))))),(1,.row 3 8 (.int .i64)),(2,fB 3 4 83),(3,.map aK eF),(4,.map aR .bool),(30,.map aK .bool),(83,.row 110 40 aR)],[]⟩
def aiR:SS:=⟨67,107,[],[(0,.var vJ (.cons (.own 1) (.cons (.val (.map aK bp)) (.cons (.val (.map aK bp)) (.cons (pP 2) .nil))))),(1,.row 3 8 (.int .i64)),(2,fB 3 4 85),(3,.map aK eF),(4,.map aR .bool),(85,.row 110 40 aR)],[]⟩
def aiS:SS:=⟨67,107,[tP 0 0,(1,.val (.slice 32 bD)),(5,.mp 30),(16,.val (.slice 48 bp)),tI 17,tI 18],aaw,[]⟩
def aiT:SS:=⟨67,107,[tP 0 0,(5,.mp 30),(26,.val (.slice 32 bD)),tI 27,tI 28],[(0,.var vJ (.cons (.own 1) (.cons (.val (.map aK bp)) (.cons (.val (.map aK bp)) (.cons (pP 2) .nil))))),(1,.row 3 8 (.int .i64)),(2,fB 3 4 84),(3,.map aK eF),(4,.map aR .bool),(30,.map aK .bool),(84,.row 110 40 aR)],[]⟩
def aiU:SS:=⟨67,107,[tP 0 0,(5,.mp 30),tP 9 25,(26,.val (.slice 32 bD)),tI 27,tI 28,(47,.val (.slice 48 bp)),tI 48,tI 49],aax,[]⟩
def aiV:SS:=⟨67,107,[(4,vB)],[(0,.var vJ (.cons (.own 1) (.cons (.val (.map aK bp)) (.cons (.val (.map aK bp)) (.cons (pP 2) .nil))))),(1,.row 3 8 (.int .i64)),(2,fB 3 4 86),(3,.map aK eF),(4,.map aR .bool),(86,.row 110 40 aR)],[]⟩
def Ww:bh:=aF G [.tmp 4] 36 [pP 0,.val (.slice 32 bD)] W8 107 aiV [0,1,2,3,4,86] (.br (Vf tA))
theorem G7:hS Ww:=
 cO ⟨[hE 2 [cB 0 [(0,0),(1,1),(2,2),(3,3),(4,4),(5,5)] []],hA 5 1,hE 11 [cB 2 [(0,2),(1,3),(2,4),(3,84)] [(39,60)]],hA 15 1],[(7,aiO),(18,aiP),(19,aiQ),(20,aiR)],[],[(3,⟨aiS,fun u3=>Int.toNat u3.2.2.1+1⟩),(8,⟨aiT,fun u7=>Int.toNat u7.2.1+1⟩),(13,⟨aiU,fun Ns=>Int.toNat Ns.2.2.2.2.1+1⟩)],[],[]⟩ (hq GI (hq Ym (hq Wv hz))) aJ Tryz.call36 Tryz.func36
def G8(a0:bz)(a1:Ze)(a2:Int)(a3:Int)(a4:Int)(a5:Zp):Zm:=
 (fb a0 a1 a2 a3 a4).bind fun⟨a,b,e,f,g,h,i,j,k,c,d,n,l,m⟩=>if a=true then((qc b c d a5).bind fun y2=>if y2=true then((kf b c d a5).bind fun y3=>if y3=true then((tA a5 c d b e f g h i j k l m n).bind fun⟨o,_,_,_,_,_,_,_,_,_,_,_,_,_⟩=>some o) else(some false)) else(some false)) else(some false)
def Kl:SS:=⟨39,79,[(12,vB)],[],[]⟩
def Wx:bh:=aF G [.tmp 12] 11 [.val fI,.val (.slice 8 (.int .i64)),vI,vI,vI,.val (.slice 32 bD)] [] 79 Kl [] (.br (u6 G8))
theorem Wy:hS Wx:=
 cO (hR [hE 1 [cB 0 [] [(41,36),(45,55),(47,56),(82,57),(88,58),(89,59)]],hE 2 [⟨[1],[],[],[],[36,55,57]⟩,⟨[2],[],[],[],[36,55,57]⟩,cB 3 [(0,56),(1,36),(2,55),(3,58),(4,59),(5,57)] [(86,53)]]]) (hq pQ (hq GQ (hq Ba (hq G7 hz)))) aJ Tryz.call11 Tryz.func11
def Ch(_a0:Zp):Zm:=
 none
def aiW:SS:=⟨37,77,[(4,vB)],[],[]⟩
def Wz:bh:=aF G [.tmp 4] 34 [.eP,.val (.slice 32 bD)] [] 77 aiW [] (.br (u1 Ch))
theorem G9:hS Wz:=
 cO (hR [(0,⟨[],[],[],none,[(0,9999)],[],[]⟩)]) hz aJ Tryz.call34 Tryz.func34
def Ci(_a0:Zp):Zm:=
 none
def aiX:SS:=⟨87,127,[(4,vB)],[],[]⟩
def WA:bh:=aF G [.tmp 4] 35 [.eP,.val (.slice 32 bD)] [] 127 aiX [] (.br (u1 Ci))
theorem Ha:hS WA:=
 cO (hR [(0,⟨[],[],[],none,[(0,9999)],[],[]⟩)]) hz aJ Tryz.call35 Tryz.func35
def Cj(_a0:Zp):Zm:=
 none
def aiY:SS:=⟨67,107,[(4,vB)],[],[]⟩
def WC:bh:=aF G [.tmp 4] 36 [.eP,.val (.slice 32 bD)] [] 107 aiY [] (.br (u1 Cj))
theorem Hb:hS WC:=
 cO (hR [(0,⟨[],[],[],none,[(0,9999)],[],[]⟩)]) hz aJ Tryz.call36 Tryz.func36
def Hc(a0:bz)(a1:Ze)(a2:Int)(a3:Int)(a4:Int)(a5:Zp):Zm:=
 (iP a0 a1 a2 a3 a4).bind fun y1=>Option.bind (α:=Bool) (if y1=true then((Ch a5).bind fun y2=>if y2=true then((Ci a5).bind fun y3=>if y3=true then((Cj a5).bind fun y4=>some y4) else(some false)) else(some false)) else(some false)) fun v5=>some v5
def WD:bh:=aF G [.tmp 12] 11 [.val fI,.val (.slice 8 (.int .i64)),vI,vI,vI,.val (.slice 32 bD)] [] 79 Kl [] (.br (u6 Hc))
theorem WE:hS WD:=
 cO (hR [hA 1 0,hD 2 12 [cA 1,cA 2,cA 3]]) (hq qb (hq G9 (hq Ha (hq Hb hz)))) aJ Tryz.call11 Tryz.func11
def f11(a0:bz)(a1:Ze)(a2:Int)(a3:Int)(a4:Int)(a5:Zp):Zm:=
 PO (G8 a0 a1 a2 a3 a4 a5) (Hc a0 a1 a2 a3 a4 a5)
def c11:bh:=aF G [.tmp 12] 11 [.val fI,.val (.slice 8 (.int .i64)),vI,vI,vI,.val (.slice 32 bD)] [] 79 Kl [] (.br (u6 f11))
theorem x11:hS c11:=bh.or Wy WE
def Hd(a0:bz)(a1:Ze)(a2:Int)(a3:Int)(a4:Int):Zm:=
 (fb a0 a1 a2 a3 a4).bind fun⟨a,b,e,f,g,h,i,j,k,c,d,n,l,m⟩=>if a=true then((qc b c d ([]:Zp)).bind fun y2=>if y2=true then((kf b c d ([]:Zp)).bind fun y3=>if y3=true then((tA ([]:Zp) c d b e f g h i j k l m n).bind fun⟨o,_,_,_,_,_,_,_,_,_,_,_,_,_⟩=>some o) else(some false)) else(some false)) else(some false)
def WG:bh:=aF G [.tmp 12] 11 [.val fI,.val (.slice 8 (.int .i64)),vI,vI,vI,.bn] [] 79 Kl [] (.br (u5 Hd))
theorem WH:hS WG:=
 cO (hR [hE 1 [cB 0 [] [(41,36),(45,55),(47,56),(82,57),(88,58),(89,59)]],hE 2 [⟨[1],[],[],[],[36,55,57]⟩,⟨[2],[],[],[],[36,55,57]⟩,cB 3 [(0,56),(1,36),(2,55),(3,58),(4,59),(5,57)] [(86,53)]]]) (hq pQ (hq GQ (hq Ba (hq G7 hz)))) aJ Tryz.call11 Tryz.func11
def He(a0:bz)(a1:Ze)(a2:Int)(a3:Int)(a4:Int):Zm:=
 (iP a0 a1 a2 a3 a4).bind fun y1=>Option.bind (α:=Bool) (if y1=true then((Ch ([]:Zp)).bind fun y2=>if y2=true then((Ci ([]:Zp)).bind fun y3=>if y3=true then((Cj ([]:Zp)).bind fun y4=>some y4) else(some false)) else(some false)) else(some false)) fun v5=>some v5
def WI:bh:=aF G [.tmp 12] 11 [.val fI,.val (.slice 8 (.int .i64)),vI,vI,vI,.bn] [] 79 Kl [] (.br (u5 He))
theorem WJ:hS WI:=
 cO (hR [hA 1 0,hD 2 12 [cA 1,cA 2,cA 3]]) (hq qb (hq G9 (hq Ha (hq Hb hz)))) aJ Tryz.call11 Tryz.func11
def Ck(a0:bz)(a1:Ze)(a2:Int)(a3:Int)(a4:Int):Zm:=
 PO (Hd a0 a1 a2 a3 a4) (He a0 a1 a2 a3 a4)
def WK:bh:=aF G [.tmp 12] 11 [.val fI,.val (.slice 8 (.int .i64)),vI,vI,vI,.bn] [] 79 Kl [] (.br (u5 Ck))
theorem NT:hS WK:=bh.or WH WJ
def NU(a0:bz)(a1:Int)(a2:Int)(a3:Int):Zm:=
 (fb a0 ([]:Ze) a1 a2 a3).bind fun⟨a,b,e,f,g,h,i,j,k,c,d,n,l,m⟩=>if a=true then((qc b c d ([]:Zp)).bind fun y2=>if y2=true then((kf b c d ([]:Zp)).bind fun y3=>if y3=true then((tA ([]:Zp) c d b e f g h i j k l m n).bind fun⟨o,_,_,_,_,_,_,_,_,_,_,_,_,_⟩=>some o) else(some false)) else(some false)) else(some false)
def WL:SS:=⟨39,79,[(12,vB)],[],[]⟩
def WM:bh:=aF G [.tmp 12] 11 [.val fI,.bn,vI,vI,vI,.bn] [] 79 WL [] (.br (u4 NU))
theorem WN:hS WM:=
 cO (hR [hE 1 [cB 0 [] [(41,36),(45,55),(47,56),(82,57),(88,58),(89,59)]],hE 2 [⟨[1],[],[],[],[36,55,57]⟩,⟨[2],[],[],[],[36,55,57]⟩,cB 3 [(0,56),(1,36),(2,55),(3,58),(4,59),(5,57)] [(86,53)]]]) (hq pQ (hq GQ (hq Ba (hq G7 hz)))) aJ Tryz.call11 Tryz.func11
def NV(a0:bz)(a1:Int)(a2:Int)(a3:Int):Zm:=
 (iP a0 ([]:Ze) a1 a2 a3).bind fun y1=>Option.bind (α:=Bool) (if y1=true then((Ch ([]:Zp)).bind fun y2=>if y2=true then((Ci ([]:Zp)).bind fun y3=>if y3=true then((Cj ([]:Zp)).bind fun y4=>some y4) else(some false)) else(some false)) else(some false)) fun v5=>some v5
def WO:bh:=aF G [.tmp 12] 11 [.val fI,.bn,vI,vI,vI,.bn] [] 79 WL [] (.br (u4 NV))
theorem WQ:hS WO:=
 cO (hR [hA 1 0,hD 2 12 [cA 1,cA 2,cA 3]]) (hq qb (hq G9 (hq Ha (hq Hb hz)))) aJ Tryz.call11 Tryz.func11
def NW(a0:bz)(a1:Int)(a2:Int)(a3:Int):Zm:=
 PO (NU a0 a1 a2 a3) (NV a0 a1 a2 a3)
def WR:bh:=aF G [.tmp 12] 11 [.val fI,.bn,vI,vI,vI,.bn] [] 79 WL [] (.br (u4 NW))
theorem WS:hS WR:=bh.or WN WQ
def f7:Zm:=
 (f18).bind fun y1=>(f9 y1 [(3:Int)] (7:Int) (2:Int) (9:Int)).bind fun y2=>aI (U:=Ze×Zp×bz×Zl×Zp) (some (.brk ([(3:Int)],y2,y1,[(0,3,0,[(3:Int),(4:Int)],()),(1,3,0,[(3:Int),(4:Int)],())],[(1,1,3,0,()),(1,0,3,0,()),(2,0,3,0,()),(2,1,3,0,())]))) fun⟨d,a,c,e,b⟩=>(f19 a b).bind fun y4=>if !y4 then none else(if(2:Int)<(a.length:Int) then(if(0:Int)<(a.length:Int) then(if(1:Int)<(a.length:Int) then(if(3:Int)<(a.length:Int) then(if(1:Int)<(a.length:Int) then(if(0:Int)<(a.length:Int) then(if(2:Int)<(a.length:Int) then(if(3:Int)<(a.length:Int) then(if(1:Int)≤(a.length:Int) then((f13 c d (7:Int) (2:Int) (9:Int) (ou a 0 (Int.toNat (1:Int)))).bind fun y5=>(f13 c d (7:Int) (2:Int) (9:Int) a).bind fun y6=>aI (U:=Ze×Zl×Zl) (Option.bind (α:=Bool) ((f15 c d (7:Int) (2:Int) (9:Int)).bind fun y8=>(f20 y8 e).bind fun y9=>if !y9 then(some true) else((NH c (7:Int) (2:Int) (9:Int)).bind fun y10=>if !decide ((y10.length:Int)=(0:Int)) then(some true) else((f15 c d (7:Int) (2:Int) (8:Int)).bind fun y11=>if !decide ((y11.length:Int)=(0:Int)) then(some true) else((f11 c d (7:Int) (2:Int) (9:Int) a).bind fun y12=>if !y12 then(some true) else((f11 c d (7:Int) (2:Int) (9:Int) [nth bD a (2:Int),nth bD a (0:Int),nth bD a (1:Int),nth bD a (3:Int)]).bind fun y13=>if y13=true then(some true) else((f11 c d (7:Int) (2:Int) (9:Int) [nth bD a (1:Int),nth bD a (0:Int),nth bD a (2:Int),nth bD a (3:Int)]).bind fun y14=>if y14=true then(some true) else((Ck c d (7:Int) (2:Int) (8:Int)).bind fun y15=>some (!y15)))))))) fun v16=>if v16=true then none else(some (.brk (d,y5,y6)))) fun⟨h,f,g⟩=>Option.bind (α:=Bool) (if decide ((f.length:Int)=(3:Int)) then(if(1:Int)<(f.length:Int) then(if(1:Int)<(List.length (nth bp f (1:Int)).2.2.2.1:Int) then(if decide ((nth (.int .i64) (nth bp f (1:Int)).2.2.2.1 (1:Int))=(4:Int)) then(if(2:Int)<(f.length:Int) then(if(1:Int)<(List.length (nth bp f (2:Int)).2.2.2.1:Int) then(if decide ((nth (.int .i64) (nth bp f (2:Int)).2.2.2.1 (1:Int))=(5:Int)) then(if decide ((g.length:Int)=(2:Int)) then(if(0:Int)<(g.length:Int) then(if(1:Int)<(List.length (nth bp g (0:Int)).2.2.2.1:Int) then(if decide ((nth (.int .i64) (nth bp g (0:Int)).2.2.2.1 (1:Int))=(5:Int)) then((f9 (((([]:ZM),([]:Zw),([]:ZG),([]:Zo),([]:ZJ),([]:ZE),()),([]:Ze),()),([]:Zz),()) h (0:Int) (1:Int) (2:Int)).bind fun y17=>if decide ((y17.length:Int)=(0:Int)) then((NW (((([]:ZM),([]:Zw),([]:ZG),([]:Zo),([]:ZJ),([]:ZE),()),([]:Ze),()),([]:Zz),()) (0:Int) (1:Int) (2:Int)).bind fun y18=>some (!y18)) else(some false)) else(some false)) else none) else none) else(some false)) else(some false)) else none) else none) else(some false)) else none) else none) else(some false)) fun v19=>some v19) else none) else none) else none) else none) else none) else none) else none) else none) else none)
def aiZ:SS:=⟨155,195,[tP 1 17,(2,.val (.slice 8 (.int .i64))),(3,.own 32),(4,.val (.slice 32 bD)),(5,.own 40)],[(17,bV fI),(32,.row 50 48 bp),(40,.row 44 32 bD)],[]⟩
def ai0:SS:=⟨155,195,[(2,.val (.slice 8 (.int .i64))),(8,.val (.slice 48 bp)),(9,.val (.slice 48 bp))],[],[]⟩
def ai1:SS:=⟨155,195,[(0,vB)],[],[]⟩
def c7:bh:=aF G [.tmp 0] 7 [] [] 195 ai1 [] (.br (fun _=>f7))
theorem x7:hS c7:=
 cO ⟨[hA 1 0,(3,⟨[],[(4,13,bp),(4,15,bp)],[],none,[],[],[]⟩),(4,⟨[.freeze 27 (.slice 8 (.int .i64))],[],[⟨[1],[],[],[],[]⟩],none,[],[],[]⟩),hA 6 2,(7,⟨[],[],[],none,[(0,9999)],[],[]⟩),hA 10 3,hA 11 3,hD 12 107 [cA 4,cA 5,cA 6,cA 4,cA 7,cA 7,cA 7,cA 8],(13,⟨[],[],[],none,[(0,9999)],[],[]⟩),hD 14 0 [cA 1,cA 9]],[(6,aiZ),(14,ai0)],[],[],[],[]⟩ (hq x18 (hq x9 (hq x19 (hq x13 (hq x15 (hq x20 (hq V0 (hq x11 (hq NT (hq WS hz)))))))))) aJ Tryz.call7 Tryz.func7
def Ja:Zaq:=aL fun amC ⟨a,b⟩=>if decide (a<(b.2.2.1.length:Int)) then(Option.bind (α:=Bool) (if 0≤a then(if a<(b.2.2.1.length:Int) then(if decide ((6:Int)<(List.length (nth bF b.2.2.1 a).2.2.2.2.1:Int)) then(some true) else(if 0≤a then(if a<(b.2.2.1.length:Int) then(some (decide ((4:Int)<(List.length (nth bF b.2.2.1 a).2.2.2.2.2.1:Int)))) else none) else none)) else none) else none) fun v4=>if v4=true then(bU (some false)) else(amC (bq (a+1),b))) else(some (.brk b))
def Jb:Zaq:=aL fun rec7 ⟨a,b⟩=>if decide (a<(b.2.2.2.1.length:Int)) then(Option.bind (α:=Bool) (if 0≤a then(if a<(b.2.2.2.1.length:Int) then(if decide ((4:Int)<(List.length (nth bG b.2.2.2.1 a).2.2.1:Int)) then(some true) else(if 0≤a then(if a<(b.2.2.2.1.length:Int) then(if decide ((5:Int)<(List.length (nth bG b.2.2.2.1 a).2.2.2.1:Int)) then(some true) else(if 0≤a then(if a<(b.2.2.2.1.length:Int) then(some (decide ((6:Int)<(List.length (nth bG b.2.2.2.1 a).2.2.2.2.1:Int)))) else none) else none)) else none) else none)) else none) else none) fun v8=>if v8=true then(bU (some false)) else(rec7 (bq (a+1),b))) else(some (.brk b))
def Ew:Zaq:=aL fun rec11 ⟨a,b⟩=>if decide (a<(b.2.2.2.2.1.length:Int)) then(if 0≤a then(if a<(b.2.2.2.2.1.length:Int) then(if decide ((6:Int)<(List.length (nth gA b.2.2.2.2.1 a).2.2.2.2.1:Int)) then(bU (some false)) else(rec11 (bq (a+1),b))) else none) else none) else(some (.brk b))
def Ex:Zaq:=aL fun rec14 ⟨a,b⟩=>if decide (a<(b.2.2.2.2.2.1.length:Int)) then(if 0≤a then(if a<(b.2.2.2.2.2.1.length:Int) then(if decide ((10:Int)<(List.length (nth dL b.2.2.2.2.2.1 a).2.1:Int)) then(bU (some false)) else(rec14 (bq (a+1),b))) else none) else none) else(some (.brk b))
def f108(a0:cu):Zm:=
 aI (U:=cu) (Ja iB (0,a0)) fun v1=>aI (U:=cu) (Jb iB (0,v1)) fun v5=>aI (U:=cu) (Ew iB (0,v5)) fun v9=>aI (U:=cu) (Ex iB (0,v9)) fun v12=>Option.bind (α:=Bool) (if decide ((v12.1.length:Int)≤(4:Int)) then(if decide ((v12.2.1.length:Int)≤(5:Int)) then(if decide ((v12.2.2.1.length:Int)≤(6:Int)) then(if decide ((v12.2.2.2.1.length:Int)≤(4:Int)) then(if decide ((v12.2.2.2.2.1.length:Int)≤(4:Int)) then(some (decide ((v12.2.2.2.2.2.1.length:Int)≤(4:Int)))) else(some false)) else(some false)) else(some false)) else(some false)) else(some false)) fun v15=>some v15
def SL:SS:=⟨131,171,[tP 1 17],[(17,bV iN)],[]⟩
def ai2:SS:=⟨131,171,[tP 1 17,tI 3],[(17,bV iN)],[]⟩
def ai3:SS:=⟨131,171,[tP 1 17,tI 4],[(17,bV iN)],[]⟩
def ai4:SS:=⟨131,171,[tP 1 17,tI 5],[(17,bV iN)],[]⟩
def ai5:SS:=⟨131,171,[tP 1 17,tI 6],[(17,bV iN)],[]⟩
def ai6:SS:=⟨131,171,[(2,vB)],[],[]⟩
def ai7:bh:=aF G [.tmp 2] 108 [.val iN] [] 171 ai6 [] (.br (u1 f108))
theorem ai8:hS ai7:=
 cO ⟨[hD 4 31 [],hD 9 66 [],hD 21 2 []],[(6,SL),(11,SL),(16,SL),(21,SL)],[],[(2,⟨ai2,fun _=>iB⟩),(7,⟨ai3,fun _=>iB⟩),(12,⟨ai4,fun _=>iB⟩),(17,⟨ai5,fun _=>iB⟩)],[],[]⟩ hz aJ Tryz.call108 Tryz.func108
def f72(a0:Cs):Zm:=
 Option.bind (α:=Bool) ((f108 a0.1).bind fun y1=>if y1=true then(some (decide ((a0.2.1.length:Int)≤(20:Int)))) else(some false)) fun v2=>some v2
def ai9:SS:=⟨12,52,[(2,vB)],[],[]⟩
def c72:bh:=aF G [.tmp 2] 72 [.val GF] [] 52 ai9 [] (.br (u1 f72))
theorem x72:hS c72:=
 cO (hR [hD 1 2 [cA 0]]) (hq ai8 hz) aJ Tryz.call72 Tryz.func72
def f49(a0:bz):Zm:=
 Option.bind (α:=Bool) ((f72 a0.1).bind fun y1=>if y1=true then(some (decide ((a0.2.1.length:Int)≤(60:Int)))) else(some false)) fun v2=>some v2
def aja:SS:=⟨12,52,[(2,vB)],[],[]⟩
def c49:bh:=aF G [.tmp 2] 49 [.val fI] [] 52 aja [] (.br (u1 f49))
theorem x49:hS c49:=
 cO (hR [hD 1 2 [cA 0]]) (hq x72 hz) aJ Tryz.call49 Tryz.func49
def NX:Nat→Int×bz×cu→Option (cL (bz×cu) Bool):=aL fun amC ⟨a,c,b⟩=>if decide (a<(b.2.2.2.1.length:Int)) then(if 0≤a then(if a<(b.2.2.2.1.length:Int) then(if decide ((3:Int)<(List.length (nth bG b.2.2.2.1 a).2.2.1:Int)) then(bU (some false)) else(amC (bq (a+1),c,b))) else none) else none) else(some (.brk (c,b)))
def f21(a0:bz):Zm:=
 aI (U:=bz×cu) (NX iB (0,a0,a0.1.1)) fun⟨a,b⟩=>Option.bind (α:=Bool) ((f49 a).bind fun y4=>if y4=true then(if decide ((b.2.2.1.length:Int)≤(6:Int)) then(some (decide ((b.2.2.2.1.length:Int)≤(5:Int)))) else(some false)) else(some false)) fun v5=>some v5
def ajb:SS:=⟨37,77,[tP 1 17,tP 3 19],[(17,bV fI),(19,bV iN)],[]⟩
def ajc:SS:=⟨37,77,[tP 1 17,tP 3 19,tI 4],[(17,bV fI),(19,bV iN)],[]⟩
def ajd:SS:=⟨37,77,[(2,vB)],[],[]⟩
def c21:bh:=aF G [.tmp 2] 21 [.val fI] [] 77 ajd [] (.br (u1 f21))
theorem x21:hS c21:=
 cO ⟨[hD 7 2 [cA 0]],[(7,ajb)],[],[(3,⟨ajc,fun _=>iB⟩)],[],[]⟩ (hq x49 hz) aJ Tryz.call21 Tryz.func21
def NY(a0:bz)(a1:Ze):Zm:=
 Option.bind (α:=Bool) ((f21 a0).bind fun y1=>if y1=true then(if decide ((a1.length:Int)≤(4:Int)) then(some (decide (((0:Nat):Int)≤(30:Int)))) else(some false)) else(some false)) fun v2=>some v2
def aje:SS:=⟨19,59,[(6,vB)],[],[]⟩
def aay:bh:=aF G [.tmp 6] 8 [.val fI,.val (.slice 8 (.int .i64)),.bn] [] 59 aje [] (.br (u2 NY))
theorem aaz:hS aay:=
 cO (hR [hD 1 6 [cA 0]]) (hq x21 hz) aJ Tryz.call8 Tryz.func8
def f16(a0:bz)(a1:Int)(a2:Int)(a3:Int):Option (Zl×Zh):=
 (f44 a0.1).bind fun y1=>(rU a0 a2 a3 (decide (y1=(0:Int)))).bind fun⟨a,b,c,d,e,f,g,h,i,j⟩=>(ny a1 a b c d e f g h i j).bind fun⟨k,_,_,_,_,_,_,_,_,_,l⟩=>some (k,l)
def ajf:SS:=⟨27,67,[(8,.val (.slice 48 bp)),(9,.val (.slice 40 aR))],[],[]⟩
def c16:bh:=aF G [.tmp 8,.tmp 9] 16 [.val fI,vI,vI,vI] [] 67 ajf [] (.br (u4 f16))
theorem x16:hS c16:=
 cO (hR [hE 1 [cA 0,cB 1 [] [(75,34),(76,43),(77,44),(78,45)]],hE 2 [cB 2 [(0,34),(1,43),(2,44),(3,45)] [(70,37)]]]) (hq x44 (hq Kv (hq M5 hz))) aJ Tryz.call16 Tryz.func16
def NZ:Nat→Int×Int×Ze×Int×Int×bz×Zl→Option (cL Zl Zl):=aL fun amC ⟨f,g,d,c,b,e,h⟩=>if decide (b<c) then(if 0≤b then(if b<(d.length:Int) then((f16 e (nth (.int .i64) d b) f g).bind fun⟨a,_⟩=>if(List.length h+a.length)*48≤aH then(amC (f,g,d,c,bq (b+1),e,h++a)) else none) else none) else none) else(some (.brk h))
def f31(a0:bz)(a1:Ze)(a2:Int)(a3:Int):Ct:=
 aI (U:=Zl) (NZ (Int.toNat (a1.length:Int)+1) (a2,a3,a1,(a1.length:Int),0,a0,([]:Zl))) fun v1=>some v1
def ajg:SS:=⟨32,72,[(8,.own 49)],[(49,.row 50 48 bp)],[]⟩
def ajh:SS:=⟨32,72,[tI 2,tI 3,tP 4 20,(8,.own 48),(13,.val (.slice 8 (.int .i64))),tI 14,tI 15],[(20,bV fI),(48,.row 50 48 bp)],[]⟩
def aji:SS:=⟨32,72,[(8,.val (.slice 48 bp))],[],[]⟩
def c31:bh:=aF G [.tmp 8] 31 [.val fI,.val (.slice 8 (.int .i64)),vI,vI] [] 72 aji [] (.br (u4 f31))
theorem x31:hS c31:=
 cO ⟨[hA 4 0],[(7,ajg)],[],[(2,⟨ajh,fun u2=>Int.toNat u2.2.2.2.1+1⟩)],[],[]⟩ (hq x16 hz) aJ Tryz.call31 Tryz.func31
def Hf:Nat→Zl×Int×yq→Zs:=aL fun amC ⟨b,c,d,a⟩=>if decide (a<(b.length:Int)) then(Option.bind (α:=Bool) (if 0≤a then(if a<(b.length:Int) then(if decide ((nth bp b a).1=c) then(if 0≤a then(if a<(b.length:Int) then(some (decide ((nth bp b a).2.1=d))) else none) else none) else(some false)) else none) else none) fun v4=>if v4=true then(bU (some true)) else(amC (b,c,d,bq (a+1)))) else(some (.brk ()))
def f32(a0:Zl)(a1:Int)(a2:Int):Zm:=
 aI (U:=Unit) (Hf iB (a0,a1,a2,0)) fun _v1=>some false
def ajj:SS:=⟨30,70,[],[],[]⟩
def ajk:SS:=⟨30,70,[(0,.val (.slice 48 bp)),tI 1,tI 2,tI 7],[],[]⟩
def ajl:SS:=⟨30,70,[(6,vB)],[],[]⟩
def c32:bh:=aF G [.tmp 6] 32 [.val (.slice 48 bp),vI,vI] [] 70 ajl [] (.br (u3 f32))
theorem x32:hS c32:=
 cO ⟨[hD 4 29 []],[(6,ajj)],[],[(2,⟨ajk,fun _=>iB⟩)],[],[]⟩ hz aJ Tryz.call32 Tryz.func32
def Hg:Nat→Zl×Int×mq→Zs:=aL fun amC ⟨b,a,c⟩=>if decide (a<(b.length:Int)) then(if 0≤a then(if a<(b.length:Int) then((f42 (nth bp b a) c).bind fun y4=>if y4=true then(bU (some true)) else(amC (b,bq (a+1),c))) else none) else none) else(some (.brk ()))
def f14(a0:Zl)(a1:mq):Zm:=
 aI (U:=Unit) (Hg iB (a0,0,a1)) fun _v1=>some false
def ajm:SS:=⟨18,58,[],[],[]⟩
def ajn:SS:=⟨18,58,[(0,.val (.slice 48 bp)),tP 3 19,tI 5],[(19,bV bp)],[]⟩
def ajo:SS:=⟨18,58,[(4,vB)],[],[]⟩
def c14:bh:=aF G [.tmp 4] 14 [.val (.slice 48 bp),.val bp] [] 58 ajo [] (.br (u2 f14))
theorem kD:hS c14:=
 cO ⟨[hA 4 0],[(6,ajm)],[],[(2,⟨ajn,fun _=>iB⟩)],[],[]⟩ (hq x42 hz) aJ Tryz.call14 Tryz.func14
def N0:Nat→Zl×Zl×yq→Zs:=aL fun amC ⟨d,c,b,a⟩=>if decide (a<b) then(if 0≤a then(if a<(c.length:Int) then((f14 d (nth bp c a)).bind fun y4=>if !y4 then(bU (some false)) else(amC (d,c,b,bq (a+1)))) else none) else none) else(some (.brk ()))
def f33(a0:Zl)(a1:Zl):Zm:=
 if !decide ((a0.length:Int)=(a1.length:Int)) then(some false) else(aI (U:=Unit) (N0 (Int.toNat (a0.length:Int)+1) (a1,a0,(a0.length:Int),0)) fun _v1=>some true)
def ajp:SS:=⟨23,63,[],[],[]⟩
def ajq:SS:=⟨23,63,[(1,.val (.slice 48 bp)),(12,.val (.slice 48 bp)),tI 13,tI 14],[],[]⟩
def ajr:SS:=⟨23,63,[(4,vB)],[],[]⟩
def c33:bh:=aF G [.tmp 4] 33 [.val (.slice 48 bp),.val (.slice 48 bp)] [] 63 ajr [] (.br (u2 f33))
theorem x33:hS c33:=
 cO ⟨[hA 6 0],[(9,ajp)],[],[(4,⟨ajq,fun u2=>Int.toNat u2.2.2.1+1⟩)],[],[]⟩ (hq kD hz) aJ Tryz.call33 Tryz.func33
def Hh:ZU:=aL fun rec14 ⟨f,g,h,i,j,k,d,l,e,m,n,c,b,a,o⟩=>if decide (a<b) then(if 0≤a then(if a<(c.length:Int) then(Option.bind (α:=Bool) ((f32 d (nth bp c a).1 (nth bp c a).2.1).bind fun y15=>if y15=true then((f32 e (nth bp c a).1 (nth bp c a).2.1).bind fun y16=>some (!y16)) else(some false)) fun v17=>if v17=true then(bU (bU (bU (some false)))) else(rec14 (f,g,h,i,j,k,d,l,e,m,n,c,b,bq (a+1),o))) else none) else none) else(some (.brk (f,g,h,i,j,k,d,l,e,m,n,o)))
def Cn:ZU:=aL fun rec20 ⟨f,g,h,i,j,d,e,k,l,m,n,c,b,a,o⟩=>if decide (a<b) then(if 0≤a then(if a<(c.length:Int) then(Option.bind (α:=Bool) ((f14 d (nth bp c a)).bind fun y21=>if !y21 then((f14 e (nth bp c a)).bind fun y22=>some (!y22)) else(some false)) fun v23=>if v23=true then(bU (bU (bU (some false)))) else(rec20 (f,g,h,i,j,d,e,k,l,m,n,c,b,bq (a+1),o))) else none) else none) else(some (.brk (f,g,h,i,j,d,e,k,l,m,n,o)))
def Co:Nat→Ze×Int×Int×Int×Zp×Zl×Zl×Int×Int×bz→Zs:=aL fun rec9 ⟨am,an,ao,ap,ak,aq,ar,aj,ai,al⟩=>if decide (ai<aj) then(aI (U:=Ze×Int×Int×Int×Zp×Zl×Zl×Int×Int×bz) (if 0≤ai then(if ai≤(ak.length:Int) then((f13 al am an ao ap (ou ak 0 (Int.toNat ai))).bind fun y11=>aI (U:=Ze×Int×Int×Int×Zp×Zl×Zl×Int×Zl×Int×Int×bz) (Hh (Int.toNat (aq.length:Int)+1) (am,an,ao,ap,ak,aq,ar,ai,y11,aj,ai,aq,(aq.length:Int),0,al)) fun⟨b,c,d,e,f,g,h,i,a,j,k,l⟩=>aI (U:=Ze×Int×Int×Int×Zp×Zl×Zl×Int×Zl×Int×Int×bz) (Cn (Int.toNat (a.length:Int)+1) (b,c,d,e,f,g,h,i,a,j,k,a,(a.length:Int),0,l)) fun⟨r,s,t,u,p,o,q,m,n,v,w,x⟩=>Option.bind (α:=Bool) (if decide (m=(0:Int)) then((f33 n o).bind fun y24=>if !y24 then(some true) else(if decide (m=(p.length:Int)) then((f33 n q).bind fun y25=>some (!y25)) else(some false))) else(if decide (m=(p.length:Int)) then((f33 n q).bind fun y26=>some (!y26)) else(some false))) fun v27=>if v27=true then(bU (bU (some false))) else(some (.brk (r,s,t,u,p,o,q,v,w,x)))) else none) else none) fun⟨y,z,aa,ab,ac,ad,ae,af,ag,ah⟩=>rec9 (y,z,aa,ab,ac,ad,ae,af,bq (ag+1),ah)) else(some (.brk ()))
def f10(a0:bz)(a1:Ze)(a2:Int)(a3:Int)(a4:Int)(a5:Zp)(a6:Bool):Zm:=
 (f11 a0 a1 a2 a3 a4 a5).bind fun y1=>if !y1 then(Option.bind (α:=Bool) (if !a6 then(some true) else(if decide ((a5.length:Int)=(0:Int)) then((f15 a0 a1 a2 a3 a4).bind fun y2=>if decide ((y2.length:Int)=(0:Int)) then((Ck a0 a1 a2 a3 a3).bind fun y3=>some (!y3)) else(some false)) else(some false))) fun v4=>some v4) else((f31 a0 a1 a2 a3).bind fun y5=>(f31 a0 a1 a2 a4).bind fun y6=>aI (U:=Unit) (Co (Int.toNat (bq ((a5.length:Int)+(1:Int)))+1) (a1,a2,a3,a4,a5,y5,y6,bq ((a5.length:Int)+(1:Int)),0,a0)) fun _v7=>some true)
def aaA:SS:=⟨142,182,[(1,.val (.slice 8 (.int .i64))),tI 2,tI 3,tI 4,(5,.val (.slice 32 bD)),tP 7 23,(15,.val (.slice 48 bp)),(16,.val (.slice 48 bp)),tI 17,(18,.val (.slice 48 bp)),tI 69,tI 70],[(23,bV fI)],[]⟩
def aaB:SS:=⟨142,182,[(1,.val (.slice 8 (.int .i64))),tI 2,tI 3,tI 4,(5,.val (.slice 32 bD)),tP 7 23,(15,.val (.slice 48 bp)),(16,.val (.slice 48 bp)),tI 69,tI 70],[(23,bV fI)],[]⟩
def ajs:SS:=⟨142,182,[],[],[]⟩
def ajt:SS:=⟨142,182,[(1,.val (.slice 8 (.int .i64))),tI 2,tI 3,tI 4,(5,.val (.slice 32 bD)),tP 7 23,(15,.val (.slice 48 bp)),(16,.val (.slice 48 bp)),tI 17,(18,.val (.slice 48 bp)),tI 69,tI 70,(82,.val (.slice 48 bp)),tI 83,tI 84],[(23,bV fI)],[]⟩
def aju:SS:=⟨142,182,[(1,.val (.slice 8 (.int .i64))),tI 2,tI 3,tI 4,(5,.val (.slice 32 bD)),tP 7 23,(15,.val (.slice 48 bp)),(16,.val (.slice 48 bp)),tI 17,(18,.val (.slice 48 bp)),tI 69,tI 70,(104,.val (.slice 48 bp)),tI 105,tI 106],[(23,bV fI)],[]⟩
def ajv:SS:=⟨142,182,[(14,vB)],[],[]⟩
def c10:bh:=aF G [.tmp 14] 10 [.val fI,.val (.slice 8 (.int .i64)),vI,vI,vI,.val (.slice 32 bD),vB] [] 182 ajv [] (.br (u7 f10))
theorem WT:hS c10:=
 cO ⟨[hA 1 0,hD 2 14 [cA 1,cA 2],hE 3 [cA 3,cA 3],hA 7 4,hD 11 102 [cA 5,cA 5],hD 17 119 [cA 6,cA 6],hD 20 140 [cA 7,cA 7]],[(14,aaA),(20,aaA),(22,aaB),(23,ajs)],[],[(5,⟨aaB,fun u8=>Int.toNat u8.2.2.2.2.2.2.2.1+1⟩),(9,⟨ajt,fun I5=>Int.toNat I5.2.2.2.2.2.2.2.2.2.2.2.2.1+1⟩),(15,⟨aju,fun u19=>Int.toNat u19.2.2.2.2.2.2.2.2.2.2.2.2.1+1⟩)],[],[]⟩ (hq x11 (hq x15 (hq NT (hq x31 (hq x13 (hq x32 (hq kD (hq x33 hz)))))))) aJ Tryz.call10 Tryz.func10
def f3(a0:bz)(a1:Ze)(a2:Int)(a3:Int)(a4:Int):Zm:=
 (f7).bind fun y1=>if !y1 then(some false) else((NY a0 a1).bind fun y2=>if !y2 then(some true) else((f9 a0 a1 a2 a3 a4).bind fun y3=>(f10 a0 a1 a2 a3 a4 y3 true).bind fun y4=>some y4))
def ajx:SS:=⟨31,71,[(10,vB)],[],[]⟩
def c3:bh:=aF G [.tmp 10] 3 [.val fI,.val (.slice 8 (.int .i64)),vI,vI,vI] [] 71 ajx [] (.br (fun d=>f3 d.1 d.2.1 d.2.2.1 d.2.2.2.1 d.2.2.2.2.1))
theorem x3:hS c3:=
 cO (hR [hA 1 0,hA 3 1,hA 5 2,hA 6 3]) (hq x7 (hq aaz (hq x9 (hq WT hz)))) aJ Tryz.call3 Tryz.func3
end Go.Proofs.YtpmlkhjpbjnagaaGreat
