/- part -/
import Derived.Test.YtpmlkhjpbjnagaaGreatUX
noncomputable section
namespace Go.Proofs.YtpmlkhjpbjnagaaGreat
open Go.Ax
def Cc(a0:Int)(a1:Int)(a2:bz)(a3:Zb)(a4:Int)(a5:Int)(a6:Bool)(a7:Zc)(a8:Unit)(a9:Zf)(a10:Zd)(a11:Zh):Option (Zn×Bool×Zm):=
 (rR a0 a1 a2 a3 a4 a5 a6 a7 a8 a9 a10 a11).bind fun⟨a,b,c,d,e,f,g,h,i,j,k⟩=>if !a then(some (([]:Zn),false,b,c,d,e,f,g,h,i,j,k)) else((dD (a0,a1,0,()) b c d e f g h i j k).bind fun⟨m,n,o,p,q,r,s,t,u,l,v⟩=>some (l.2.2.1,l.2.2.2.1,m,n,o,p,q,r,s,t,u,v))
def air:SS:=⟨23,63,[(6,.val (.slice 48 br)),(7,vB)],[(0,fB 1 2 39),(1,.map aJ eE),(2,.map aR .bool),(39,.row 110 40 aR)],[]⟩
def V4:aZ:=aG G [.tmp 6,.tmp 7] 60 [pP 0,vI,vI] IU 63 air [0,1,2,39] (.bq (JO Cc))
theorem V5:hS V4:=
 cO (hR [hE 1 [cB 0 [(0,0),(1,1),(2,2),(3,3)] []],hE 3 [cB 1 [(0,0),(1,1),(2,2),(3,3)] [(93,34)]]]) (hq Ep (hq vD hz)) aK Tryz.call60 Tryz.func60
def tk:Nat→Zo×Zn×Int×Int×Zak→Option (cJ (Zo×Zak) (Bool×RQ)):=aL fun rec4 ⟨e,c,b,a,f,g,h,i,j,k,l,m,n,o,p,q,r,d⟩=>if decide (a<b) then(if 0≤a then(if a<(c.length:Int) then((f52 (nth br c a)).bind fun y5=>if d.length+1≤aH then(rec4 (e,c,b,bp (a+1),f,g,h,i,j,k,l,m,n,o,p,q,r,aY aJ y5 true d)) else none) else none) else none) else(some (.brk (e,f,g,h,i,j,k,l,m,n,o,p,q,r,d)))
def xS:Nat→Zo×Int×Int×Zn×Zae→Option (cJ (Zo×Zae) (cJ Zaf (cJ RQ (Bool×RQ)))):=aL fun rec13 ⟨r,s,t,c,b,a,e,f,g,h,i,j,k,l,m,n,o,p,u,d,q⟩=>if decide (a<b) then(if 0≤a then(if a<(c.length:Int) then((f52 (nth br c a)).bind fun y14=>if(aP aJ .bool y14 d)=true then(bX (bX (bX (some (false,e,f,g,h,i,j,k,l,m,n,o,p,q))))) else(rec13 (r,s,t,c,b,bp (a+1),e,f,g,h,i,j,k,l,m,n,o,p,u,d,q))) else none) else none) else(some (.brk (r,s,t,e,f,g,h,i,j,k,l,m,n,o,p,u,d,q)))
def zZ:Nat→Zaf→Option (cJ RQ (Bool×RQ)):=aL fun rec8 ⟨ay,ax,aw,az,a0,a1,a2,a3,a4,a5,a6,a7,a8,a9,ba,bb,bc⟩=>if decide (aw<ax) then(aI (U:=Zaf) (if 0≤aw then(if aw<(ay.length:Int) then(if !decide ((nth bB ay aw).1=(1:Int)) then(some (.brk (ay,ax,aw,az,a0,a1,a2,a3,a4,a5,a6,a7,a8,a9,ba,bb,bc))) else((Cc (nth bB ay aw).2.1 (nth bB ay aw).2.2.1 a2 a3 a4 a5 a6 a7 a8 a9 ba bc).bind fun⟨a,_,b,c,d,e,f,g,h,i,j,k⟩=>aI (U:=Zo×Zae) (xS (Int.toNat (a.length:Int)+1) (ay,ax,aw,a,(a.length:Int),0,az,a0,a1,b,c,d,e,f,g,h,i,j,nth bB ay aw,bb,k)) fun⟨l,m,n,o,p,q,r,s,t,u,v,w,x,y,z,aa,ab,ac⟩=>some (.brk (l,m,n,o,p,q,r,s,t,u,v,w,x,y,z,iX aJ (aa.2.1,aa.2.2.1,aa.2.2.2.1,()) ab,ac)))) else none) else none) fun⟨ad,ae,af,ag,ah,ai,aj,ak,al,am,an,ao,ap,aq,ar,au,av⟩=>rec8 (ad,ae,bp (af+1),ag,ah,ai,aj,ak,al,am,an,ao,ap,aq,ar,au,av)) else(some (.brk (az,a0,a1,a2,a3,a4,a5,a6,a7,a8,a9,ba,bc)))
def tn(a0:Zo)(a1:Zg)(a2:Zg)(a3:Ze)(a4:bz)(a5:Zb)(a6:Int)(a7:Int)(a8:Bool)(a9:Zc)(a10:Unit)(a11:Zf)(a12:Zd)(a13:Zh):Option (Bool×RQ):=
 aI (U:=Zo×Zak) ((nF a1 a2 a3 a4 a5 a6 a7 a8 a9 a10 a11 a12 a13).bind fun⟨a,b,c,d,e,f,g,h,i,j,k,l,m,n⟩=>tk (Int.toNat (a.length:Int)+1) (a0,a,(a.length:Int),0,b,c,d,e,f,g,h,i,j,k,l,m,n,([]:List (cL×Bool)))) fun⟨o,p,q,r,s,t,u,v,w,x,y,z,aa,ac,ab⟩=>aI (U:=RQ) (zZ (Int.toNat (o.length:Int)+1) (o,(o.length:Int),0,p,q,r,s,t,u,v,w,x,y,z,aa,ab,ac)) fun⟨ad,ae,af,ag,ah,ai,aj,ak,al,am,an,ao,ap⟩=>some (true,ad,ae,af,ag,ah,ai,aj,ak,al,am,an,ao,ap)
def Z7:List (Nat×de):=[(0,.var vC (.cons (.own 1) (.cons (.val (.map aJ br)) (.cons (.val (.map aJ br)) (.cons (pP 2) .nil))))),(1,.row 3 8 (.int .i64)),(2,fB 3 4 5),(3,.map aJ eE),(4,.map aR .bool),(5,.row 110 40 aR),(30,.map aJ .bool)]
def ais:SS:=⟨67,107,[tP 0 0,(1,.val (.slice 32 bB)),(5,.mp 30)],Z7,[]⟩
def Z8:List (Nat×de):=[(0,.var vC (.cons (.own 1) (.cons (.val (.map aJ br)) (.cons (.val (.map aJ br)) (.cons (pP 2) .nil))))),(1,.row 3 8 (.int .i64)),(2,fB 3 4 60),(3,.map aJ eE),(4,.map aR .bool),(25,bV bB),(30,.map aJ .bool),(60,.row 110 40 aR)]
def ait:SS:=⟨67,107,[tP 0 0,(5,.mp 30),tP 9 25,(26,.val (.slice 32 bB)),tI 27,tI 28],Z8,[]⟩
def aiu:SS:=⟨67,107,[tP 0 0,(5,.mp 30),(26,.val (.slice 32 bB)),tI 27,tI 28],[(0,.var vC (.cons (.own 1) (.cons (.val (.map aJ br)) (.cons (.val (.map aJ br)) (.cons (pP 2) .nil))))),(1,.row 3 8 (.int .i64)),(2,fB 3 4 83),(3,.map aJ eE),(4,.map aR .bool),(30,.map aJ .bool),(83,.row 110 40 aR)],[]⟩
def aiv:SS:=⟨67,107,[],[(0,.var vC (.cons (.own 1) (.cons (.val (.map aJ br)) (.cons (.val (.map aJ br)) (.cons (pP 2) .nil))))),(1,.row 3 8 (.int .i64)),(2,fB 3 4 85),(3,.map aJ eE),(4,.map aR .bool),(85,.row 110 40 aR)],[]⟩
def aiw:SS:=⟨67,107,[tP 0 0,(1,.val (.slice 32 bB)),(5,.mp 30),(16,.val (.slice 48 br)),tI 17,tI 18],Z7,[]⟩
def aix:SS:=⟨67,107,[tP 0 0,(5,.mp 30),(26,.val (.slice 32 bB)),tI 27,tI 28],[(0,.var vC (.cons (.own 1) (.cons (.val (.map aJ br)) (.cons (.val (.map aJ br)) (.cons (pP 2) .nil))))),(1,.row 3 8 (.int .i64)),(2,fB 3 4 84),(3,.map aJ eE),(4,.map aR .bool),(30,.map aJ .bool),(84,.row 110 40 aR)],[]⟩
def aiy:SS:=⟨67,107,[tP 0 0,(5,.mp 30),tP 9 25,(26,.val (.slice 32 bB)),tI 27,tI 28,(47,.val (.slice 48 br)),tI 48,tI 49],Z8,[]⟩
def aiz:SS:=⟨67,107,[(4,vB)],[(0,.var vC (.cons (.own 1) (.cons (.val (.map aJ br)) (.cons (.val (.map aJ br)) (.cons (pP 2) .nil))))),(1,.row 3 8 (.int .i64)),(2,fB 3 4 86),(3,.map aJ eE),(4,.map aR .bool),(86,.row 110 40 aR)],[]⟩
def V6:aZ:=aG G [.tmp 4] 36 [pP 0,.val (.slice 32 bB)] WG 107 aiz [0,1,2,3,4,86] (.bq (UR tn))
theorem GS:hS V6:=
 cO ⟨[hE 2 [cB 0 [(0,0),(1,1),(2,2),(3,3),(4,4),(5,5)] []],hA 5 1,hE 11 [cB 2 [(0,2),(1,3),(2,4),(3,84)] [(39,60)]],hA 15 1],[(7,ais),(18,ait),(19,aiu),(20,aiv)],[],[(3,⟨aiw,fun u3=>Int.toNat u3.2.2.1+1⟩),(8,⟨aix,fun u7=>Int.toNat u7.2.1+1⟩),(13,⟨aiy,fun JO=>Int.toNat JO.2.2.2.2.1+1⟩)],[],[]⟩ (hq Gu (hq Yj (hq V5 hz))) aK Tryz.call36 Tryz.func36
def GU(a0:bz)(a1:Ze)(a2:Int)(a3:Int)(a4:Int)(a5:Zo):Zl:=
 (fv a0 a1 a2 a3 a4).bind fun⟨a,b,e,f,g,h,i,j,k,c,d,n,l,m⟩=>if a=true then((qa b c d a5).bind fun y2=>if y2=true then((j8 b c d a5).bind fun y3=>if y3=true then((tn a5 c d b e f g h i j k l m n).bind fun⟨o,_,_,_,_,_,_,_,_,_,_,_,_,_⟩=>some o) else(some false)) else(some false)) else(some false)
def J6:SS:=⟨39,79,[(12,vB)],[],[]⟩
def V7:aZ:=aG G [.tmp 12] 11 [.val fF,.val (.slice 8 (.int .i64)),vI,vI,vI,.val (.slice 32 bB)] [] 79 J6 [] (.bq (u6 GU))
theorem V8:hS V7:=
 cO (hR [hE 1 [cB 0 [] [(41,36),(45,55),(47,56),(82,57),(88,58),(89,59)]],hE 2 [⟨[1],[],[],[],[36,55,57]⟩,⟨[2],[],[],[],[36,55,57]⟩,cB 3 [(0,56),(1,36),(2,55),(3,58),(4,59),(5,57)] [(86,53)]]]) (hq pN (hq GA (hq A5 (hq GS hz)))) aK Tryz.call11 Tryz.func11
def Cd(_a0:Zo):Zl:=
 none
def aiA:SS:=⟨37,77,[(4,vB)],[],[]⟩
def V9:aZ:=aG G [.tmp 4] 34 [.eN,.val (.slice 32 bB)] [] 77 aiA [] (.bq (u1 Cd))
theorem GV:hS V9:=
 cO (hR [(0,⟨[],[],[],none,[(0,9999)],[],[]⟩)]) hz aK Tryz.call34 Tryz.func34
def Ce(_a0:Zo):Zl:=
 none
def aiB:SS:=⟨87,127,[(4,vB)],[],[]⟩
def Wa:aZ:=aG G [.tmp 4] 35 [.eN,.val (.slice 32 bB)] [] 127 aiB [] (.bq (u1 Ce))
theorem GW:hS Wa:=
 cO (hR [(0,⟨[],[],[],none,[(0,9999)],[],[]⟩)]) hz aK Tryz.call35 Tryz.func35
def Cf(_a0:Zo):Zl:=
 none
def aiC:SS:=⟨67,107,[(4,vB)],[],[]⟩
def Wb:aZ:=aG G [.tmp 4] 36 [.eN,.val (.slice 32 bB)] [] 107 aiC [] (.bq (u1 Cf))
theorem GX:hS Wb:=
 cO (hR [(0,⟨[],[],[],none,[(0,9999)],[],[]⟩)]) hz aK Tryz.call36 Tryz.func36
def GY(a0:bz)(a1:Ze)(a2:Int)(a3:Int)(a4:Int)(a5:Zo):Zl:=
 (iM a0 a1 a2 a3 a4).bind fun y1=>Option.bind (α:=Bool) (if y1=true then((Cd a5).bind fun y2=>if y2=true then((Ce a5).bind fun y3=>if y3=true then((Cf a5).bind fun y4=>some y4) else(some false)) else(some false)) else(some false)) fun v5=>some v5
def Wc:aZ:=aG G [.tmp 12] 11 [.val fF,.val (.slice 8 (.int .i64)),vI,vI,vI,.val (.slice 32 bB)] [] 79 J6 [] (.bq (u6 GY))
theorem We:hS Wc:=
 cO (hR [hA 1 0,hD 2 12 [cA 1,cA 2,cA 3]]) (hq pZ (hq GV (hq GW (hq GX hz)))) aK Tryz.call11 Tryz.func11
def f11(a0:bz)(a1:Ze)(a2:Int)(a3:Int)(a4:Int)(a5:Zo):Zl:=
 Pm (GU a0 a1 a2 a3 a4 a5) (GY a0 a1 a2 a3 a4 a5)
def c11:aZ:=aG G [.tmp 12] 11 [.val fF,.val (.slice 8 (.int .i64)),vI,vI,vI,.val (.slice 32 bB)] [] 79 J6 [] (.bq (u6 f11))
theorem x11:hS c11:=aZ.or V8 We
def Nv(a0:bz)(a1:Ze)(a2:Int)(a3:Int)(a4:Int):Zl:=
 (fv a0 a1 a2 a3 a4).bind fun⟨a,b,e,f,g,h,i,j,k,c,d,n,l,m⟩=>if a=true then((qa b c d ([]:Zo)).bind fun y2=>if y2=true then((j8 b c d ([]:Zo)).bind fun y3=>if y3=true then((tn ([]:Zo) c d b e f g h i j k l m n).bind fun⟨o,_,_,_,_,_,_,_,_,_,_,_,_,_⟩=>some o) else(some false)) else(some false)) else(some false)
def Wf:aZ:=aG G [.tmp 12] 11 [.val fF,.val (.slice 8 (.int .i64)),vI,vI,vI,.bn] [] 79 J6 [] (.bq (u5 Nv))
theorem Wg:hS Wf:=
 cO (hR [hE 1 [cB 0 [] [(41,36),(45,55),(47,56),(82,57),(88,58),(89,59)]],hE 2 [⟨[1],[],[],[],[36,55,57]⟩,⟨[2],[],[],[],[36,55,57]⟩,cB 3 [(0,56),(1,36),(2,55),(3,58),(4,59),(5,57)] [(86,53)]]]) (hq pN (hq GA (hq A5 (hq GS hz)))) aK Tryz.call11 Tryz.func11
def Nw(a0:bz)(a1:Ze)(a2:Int)(a3:Int)(a4:Int):Zl:=
 (iM a0 a1 a2 a3 a4).bind fun y1=>Option.bind (α:=Bool) (if y1=true then((Cd ([]:Zo)).bind fun y2=>if y2=true then((Ce ([]:Zo)).bind fun y3=>if y3=true then((Cf ([]:Zo)).bind fun y4=>some y4) else(some false)) else(some false)) else(some false)) fun v5=>some v5
def Wh:aZ:=aG G [.tmp 12] 11 [.val fF,.val (.slice 8 (.int .i64)),vI,vI,vI,.bn] [] 79 J6 [] (.bq (u5 Nw))
theorem Wi:hS Wh:=
 cO (hR [hA 1 0,hD 2 12 [cA 1,cA 2,cA 3]]) (hq pZ (hq GV (hq GW (hq GX hz)))) aK Tryz.call11 Tryz.func11
def Nx(a0:bz)(a1:Ze)(a2:Int)(a3:Int)(a4:Int):Zl:=
 Pm (Nv a0 a1 a2 a3 a4) (Nw a0 a1 a2 a3 a4)
def Wj:aZ:=aG G [.tmp 12] 11 [.val fF,.val (.slice 8 (.int .i64)),vI,vI,vI,.bn] [] 79 J6 [] (.bq (u5 Nx))
theorem Wl:hS Wj:=aZ.or Wg Wi
def Ny(a0:bz)(a1:Int)(a2:Int)(a3:Int):Zl:=
 (fv a0 ([]:Ze) a1 a2 a3).bind fun⟨a,b,e,f,g,h,i,j,k,c,d,n,l,m⟩=>if a=true then((qa b c d ([]:Zo)).bind fun y2=>if y2=true then((j8 b c d ([]:Zo)).bind fun y3=>if y3=true then((tn ([]:Zo) c d b e f g h i j k l m n).bind fun⟨o,_,_,_,_,_,_,_,_,_,_,_,_,_⟩=>some o) else(some false)) else(some false)) else(some false)
def Wm:SS:=⟨39,79,[(12,vB)],[],[]⟩
def Wn:aZ:=aG G [.tmp 12] 11 [.val fF,.bn,vI,vI,vI,.bn] [] 79 Wm [] (.bq (u4 Ny))
theorem Wo:hS Wn:=
 cO (hR [hE 1 [cB 0 [] [(41,36),(45,55),(47,56),(82,57),(88,58),(89,59)]],hE 2 [⟨[1],[],[],[],[36,55,57]⟩,⟨[2],[],[],[],[36,55,57]⟩,cB 3 [(0,56),(1,36),(2,55),(3,58),(4,59),(5,57)] [(86,53)]]]) (hq pN (hq GA (hq A5 (hq GS hz)))) aK Tryz.call11 Tryz.func11
def Nz(a0:bz)(a1:Int)(a2:Int)(a3:Int):Zl:=
 (iM a0 ([]:Ze) a1 a2 a3).bind fun y1=>Option.bind (α:=Bool) (if y1=true then((Cd ([]:Zo)).bind fun y2=>if y2=true then((Ce ([]:Zo)).bind fun y3=>if y3=true then((Cf ([]:Zo)).bind fun y4=>some y4) else(some false)) else(some false)) else(some false)) fun v5=>some v5
def Wp:aZ:=aG G [.tmp 12] 11 [.val fF,.bn,vI,vI,vI,.bn] [] 79 Wm [] (.bq (u4 Nz))
theorem Wq:hS Wp:=
 cO (hR [hA 1 0,hD 2 12 [cA 1,cA 2,cA 3]]) (hq pZ (hq GV (hq GW (hq GX hz)))) aK Tryz.call11 Tryz.func11
def NA(a0:bz)(a1:Int)(a2:Int)(a3:Int):Zl:=
 Pm (Ny a0 a1 a2 a3) (Nz a0 a1 a2 a3)
def Wr:aZ:=aG G [.tmp 12] 11 [.val fF,.bn,vI,vI,vI,.bn] [] 79 Wm [] (.bq (u4 NA))
theorem Ws:hS Wr:=aZ.or Wo Wq
def f7:Zl:=
 (f18).bind fun y1=>(f9 y1 [(3:Int)] (7:Int) (2:Int) (9:Int)).bind fun y2=>aI (U:=Ze×Zo×bz×Zn×Zo) (some (.brk ([(3:Int)],y2,y1,[(0,3,0,[(3:Int),(4:Int)],()),(1,3,0,[(3:Int),(4:Int)],())],[(1,1,3,0,()),(1,0,3,0,()),(2,0,3,0,()),(2,1,3,0,())]))) fun⟨d,a,c,e,b⟩=>(f19 a b).bind fun y4=>if !y4 then none else(if(2:Int)<(a.length:Int) then(if(0:Int)<(a.length:Int) then(if(1:Int)<(a.length:Int) then(if(3:Int)<(a.length:Int) then(if(1:Int)<(a.length:Int) then(if(0:Int)<(a.length:Int) then(if(2:Int)<(a.length:Int) then(if(3:Int)<(a.length:Int) then(if(1:Int)≤(a.length:Int) then((f13 c d (7:Int) (2:Int) (9:Int) (oj a 0 (Int.toNat (1:Int)))).bind fun y5=>(f13 c d (7:Int) (2:Int) (9:Int) a).bind fun y6=>aI (U:=Ze×Zn×Zn) (Option.bind (α:=Bool) ((f15 c d (7:Int) (2:Int) (9:Int)).bind fun y8=>(f20 y8 e).bind fun y9=>if !y9 then(some true) else((Nj c (7:Int) (2:Int) (9:Int)).bind fun y10=>if !decide ((y10.length:Int)=(0:Int)) then(some true) else((f15 c d (7:Int) (2:Int) (8:Int)).bind fun y11=>if !decide ((y11.length:Int)=(0:Int)) then(some true) else((f11 c d (7:Int) (2:Int) (9:Int) a).bind fun y12=>if !y12 then(some true) else((f11 c d (7:Int) (2:Int) (9:Int) [nth bB a (2:Int),nth bB a (0:Int),nth bB a (1:Int),nth bB a (3:Int)]).bind fun y13=>if y13=true then(some true) else((f11 c d (7:Int) (2:Int) (9:Int) [nth bB a (1:Int),nth bB a (0:Int),nth bB a (2:Int),nth bB a (3:Int)]).bind fun y14=>if y14=true then(some true) else((Nx c d (7:Int) (2:Int) (8:Int)).bind fun y15=>some (!y15)))))))) fun v16=>if v16=true then none else(some (.brk (d,y5,y6)))) fun⟨h,f,g⟩=>Option.bind (α:=Bool) (if decide ((f.length:Int)=(3:Int)) then(if(1:Int)<(f.length:Int) then(if(1:Int)<(List.length (nth br f (1:Int)).2.2.2.1:Int) then(if decide ((nth (.int .i64) (nth br f (1:Int)).2.2.2.1 (1:Int))=(4:Int)) then(if(2:Int)<(f.length:Int) then(if(1:Int)<(List.length (nth br f (2:Int)).2.2.2.1:Int) then(if decide ((nth (.int .i64) (nth br f (2:Int)).2.2.2.1 (1:Int))=(5:Int)) then(if decide ((g.length:Int)=(2:Int)) then(if(0:Int)<(g.length:Int) then(if(1:Int)<(List.length (nth br g (0:Int)).2.2.2.1:Int) then(if decide ((nth (.int .i64) (nth br g (0:Int)).2.2.2.1 (1:Int))=(5:Int)) then((f9 (((([]:ZM),([]:Zw),([]:ZG),([]:Zp),([]:ZJ),([]:ZE),()),([]:Ze),()),([]:Zz),()) h (0:Int) (1:Int) (2:Int)).bind fun y17=>if decide ((y17.length:Int)=(0:Int)) then((NA (((([]:ZM),([]:Zw),([]:ZG),([]:Zp),([]:ZJ),([]:ZE),()),([]:Ze),()),([]:Zz),()) (0:Int) (1:Int) (2:Int)).bind fun y18=>some (!y18)) else(some false)) else(some false)) else none) else none) else(some false)) else(some false)) else none) else none) else(some false)) else none) else none) else(some false)) fun v19=>some v19) else none) else none) else none) else none) else none) else none) else none) else none) else none)
def aiD:SS:=⟨155,195,[tP 1 17,(2,.val (.slice 8 (.int .i64))),(3,.own 32),(4,.val (.slice 32 bB)),(5,.own 40)],[(17,bV fF),(32,.row 50 48 br),(40,.row 44 32 bB)],[]⟩
def aiE:SS:=⟨155,195,[(2,.val (.slice 8 (.int .i64))),(8,.val (.slice 48 br)),(9,.val (.slice 48 br))],[],[]⟩
def aiF:SS:=⟨155,195,[(0,vB)],[],[]⟩
def c7:aZ:=aG G [.tmp 0] 7 [] [] 195 aiF [] (.bq (fun _=>f7))
theorem x7:hS c7:=
 cO ⟨[hA 1 0,(3,⟨[],[(4,13,br),(4,15,br)],[],none,[],[],[]⟩),(4,⟨[.freeze 27 (.slice 8 (.int .i64))],[],[⟨[1],[],[],[],[]⟩],none,[],[],[]⟩),hA 6 2,(7,⟨[],[],[],none,[(0,9999)],[],[]⟩),hA 10 3,hA 11 3,hD 12 107 [cA 4,cA 5,cA 6,cA 4,cA 7,cA 7,cA 7,cA 8],(13,⟨[],[],[],none,[(0,9999)],[],[]⟩),hD 14 0 [cA 1,cA 9]],[(6,aiD),(14,aiE)],[],[],[],[]⟩ (hq x18 (hq x9 (hq x19 (hq x13 (hq x15 (hq x20 (hq Vx (hq x11 (hq Wl (hq Ws hz)))))))))) aK Tryz.call7 Tryz.func7
def IS:Zap:=aL fun al4 ⟨a,b⟩=>if decide (a<(b.2.2.1.length:Int)) then(Option.bind (α:=Bool) (if 0≤a then(if a<(b.2.2.1.length:Int) then(if decide ((6:Int)<(List.length (nth bF b.2.2.1 a).2.2.2.2.1:Int)) then(some true) else(if 0≤a then(if a<(b.2.2.1.length:Int) then(some (decide ((4:Int)<(List.length (nth bF b.2.2.1 a).2.2.2.2.2.1:Int)))) else none) else none)) else none) else none) fun v4=>if v4=true then(bX (some false)) else(al4 (bp (a+1),b))) else(some (.brk b))
def IT:Zap:=aL fun rec7 ⟨a,b⟩=>if decide (a<(b.2.2.2.1.length:Int)) then(Option.bind (α:=Bool) (if 0≤a then(if a<(b.2.2.2.1.length:Int) then(if decide ((4:Int)<(List.length (nth bG b.2.2.2.1 a).2.2.1:Int)) then(some true) else(if 0≤a then(if a<(b.2.2.2.1.length:Int) then(if decide ((5:Int)<(List.length (nth bG b.2.2.2.1 a).2.2.2.1:Int)) then(some true) else(if 0≤a then(if a<(b.2.2.2.1.length:Int) then(some (decide ((6:Int)<(List.length (nth bG b.2.2.2.1 a).2.2.2.2.1:Int)))) else none) else none)) else none) else none)) else none) else none) fun v8=>if v8=true then(bX (some false)) else(rec7 (bp (a+1),b))) else(some (.brk b))
def El:Zap:=aL fun rec11 ⟨a,b⟩=>if decide (a<(b.2.2.2.2.1.length:Int)) then(if 0≤a then(if a<(b.2.2.2.2.1.length:Int) then(if decide ((6:Int)<(List.length (nth gw b.2.2.2.2.1 a).2.2.2.2.1:Int)) then(bX (some false)) else(rec11 (bp (a+1),b))) else none) else none) else(some (.brk b))
def Em:Zap:=aL fun rec14 ⟨a,b⟩=>if decide (a<(b.2.2.2.2.2.1.length:Int)) then(if 0≤a then(if a<(b.2.2.2.2.2.1.length:Int) then(if decide ((10:Int)<(List.length (nth dL b.2.2.2.2.2.1 a).2.1:Int)) then(bX (some false)) else(rec14 (bp (a+1),b))) else none) else none) else(some (.brk b))
def f108(a0:cu):Zl:=
 aI (U:=cu) (IS iZ (0,a0)) fun v1=>aI (U:=cu) (IT iZ (0,v1)) fun v5=>aI (U:=cu) (El iZ (0,v5)) fun v9=>aI (U:=cu) (Em iZ (0,v9)) fun v12=>Option.bind (α:=Bool) (if decide ((v12.1.length:Int)≤(4:Int)) then(if decide ((v12.2.1.length:Int)≤(5:Int)) then(if decide ((v12.2.2.1.length:Int)≤(6:Int)) then(if decide ((v12.2.2.2.1.length:Int)≤(4:Int)) then(if decide ((v12.2.2.2.2.1.length:Int)≤(4:Int)) then(some (decide ((v12.2.2.2.2.2.1.length:Int)≤(4:Int)))) else(some false)) else(some false)) else(some false)) else(some false)) else(some false)) fun v15=>some v15
def Sf:SS:=⟨131,171,[tP 1 17],[(17,bV iK)],[]⟩
def aiG:SS:=⟨131,171,[tP 1 17,tI 3],[(17,bV iK)],[]⟩
def aiH:SS:=⟨131,171,[tP 1 17,tI 4],[(17,bV iK)],[]⟩
def aiI:SS:=⟨131,171,[tP 1 17,tI 5],[(17,bV iK)],[]⟩
def aiJ:SS:=⟨131,171,[tP 1 17,tI 6],[(17,bV iK)],[]⟩
def aiK:SS:=⟨131,171,[(2,vB)],[],[]⟩
def aiL:aZ:=aG G [.tmp 2] 108 [.val iK] [] 171 aiK [] (.bq (u1 f108))
theorem aiM:hS aiL:=
 cO ⟨[hD 4 31 [],hD 9 66 [],hD 21 2 []],[(6,Sf),(11,Sf),(16,Sf),(21,Sf)],[],[(2,⟨aiG,fun _=>iZ⟩),(7,⟨aiH,fun _=>iZ⟩),(12,⟨aiI,fun _=>iZ⟩),(17,⟨aiJ,fun _=>iZ⟩)],[],[]⟩ hz aK Tryz.call108 Tryz.func108
def f72(a0:Cj):Zl:=
 Option.bind (α:=Bool) ((f108 a0.1).bind fun y1=>if y1=true then(some (decide ((a0.2.1.length:Int)≤(20:Int)))) else(some false)) fun v2=>some v2
def aiN:SS:=⟨12,52,[(2,vB)],[],[]⟩
def c72:aZ:=aG G [.tmp 2] 72 [.val Gs] [] 52 aiN [] (.bq (u1 f72))
theorem x72:hS c72:=
 cO (hR [hD 1 2 [cA 0]]) (hq aiM hz) aK Tryz.call72 Tryz.func72
def f49(a0:bz):Zl:=
 Option.bind (α:=Bool) ((f72 a0.1).bind fun y1=>if y1=true then(some (decide ((a0.2.1.length:Int)≤(60:Int)))) else(some false)) fun v2=>some v2
def aiO:SS:=⟨12,52,[(2,vB)],[],[]⟩
def c49:aZ:=aG G [.tmp 2] 49 [.val fF] [] 52 aiO [] (.bq (u1 f49))
theorem x49:hS c49:=
 cO (hR [hD 1 2 [cA 0]]) (hq x72 hz) aK Tryz.call49 Tryz.func49
def NC:Nat→Int×bz×cu→Option (cJ (bz×cu) Bool):=aL fun al4 ⟨a,c,b⟩=>if decide (a<(b.2.2.2.1.length:Int)) then(if 0≤a then(if a<(b.2.2.2.1.length:Int) then(if decide ((3:Int)<(List.length (nth bG b.2.2.2.1 a).2.2.1:Int)) then(bX (some false)) else(al4 (bp (a+1),c,b))) else none) else none) else(some (.brk (c,b)))
def f21(a0:bz):Zl:=
 aI (U:=bz×cu) (NC iZ (0,a0,a0.1.1)) fun⟨a,b⟩=>Option.bind (α:=Bool) ((f49 a).bind fun y4=>if y4=true then(if decide ((b.2.2.1.length:Int)≤(6:Int)) then(some (decide ((b.2.2.2.1.length:Int)≤(5:Int)))) else(some false)) else(some false)) fun v5=>some v5
def aiP:SS:=⟨37,77,[tP 1 17,tP 3 19],[(17,bV fF),(19,bV iK)],[]⟩
def aiQ:SS:=⟨37,77,[tP 1 17,tP 3 19,tI 4],[(17,bV fF),(19,bV iK)],[]⟩
def aiR:SS:=⟨37,77,[(2,vB)],[],[]⟩
def c21:aZ:=aG G [.tmp 2] 21 [.val fF] [] 77 aiR [] (.bq (u1 f21))
theorem x21:hS c21:=
 cO ⟨[hD 7 2 [cA 0]],[(7,aiP)],[],[(3,⟨aiQ,fun _=>iZ⟩)],[],[]⟩ (hq x49 hz) aK Tryz.call21 Tryz.func21
def aiS:SS:=⟨19,59,[(6,vB)],[],[]⟩
def f16(a0:bz)(a1:Int)(a2:Int)(a3:Int):Option (Zn×Zh):=
 (f44 a0.1).bind fun y1=>(ph a0 a2 a3 (decide (y1=(0:Int)))).bind fun⟨a,b,c,d,e,f,g,h,i,j⟩=>(nu a1 a b c d e f g h i j).bind fun⟨k,_,_,_,_,_,_,_,_,_,l⟩=>some (k,l)
def GZ:Nat→Zn×Int×k9→Zs:=aL fun al4 ⟨b,a,c⟩=>if decide (a<(b.length:Int)) then(if 0≤a then(if a<(b.length:Int) then((f42 (nth br b a) c).bind fun y4=>if y4=true then(bX (some true)) else(al4 (b,bp (a+1),c))) else none) else none) else(some (.brk ()))
def f14(a0:Zn)(a1:k9):Zl:=
 aI (U:=Unit) (GZ iZ (a0,0,a1)) fun _v1=>some false
def aiT:SS:=⟨18,58,[],[],[]⟩
def aiU:SS:=⟨18,58,[(0,.val (.slice 48 br)),tP 3 19,tI 5],[(19,bV br)],[]⟩
def aiV:SS:=⟨18,58,[(4,vB)],[],[]⟩
def c14:aZ:=aG G [.tmp 4] 14 [.val (.slice 48 br),.val br] [] 58 aiV [] (.bq (u2 f14))
theorem lb:hS c14:=
 cO ⟨[hA 4 0],[(6,aiT)],[],[(2,⟨aiU,fun _=>iZ⟩)],[],[]⟩ (hq x42 hz) aK Tryz.call14 Tryz.func14
def f8(a0:bz)(a1:Ze)(a2:Zo):Zl:=
 Option.bind (α:=Bool) ((f21 a0).bind fun y1=>if y1=true then(if decide ((a1.length:Int)≤(4:Int)) then(some (decide ((a2.length:Int)≤(30:Int)))) else(some false)) else(some false)) fun v2=>some v2
def c8:aZ:=aG G [.tmp 6] 8 [.val fF,.val (.slice 8 (.int .i64)),.val (.slice 32 bB)] [] 59 aiS [] (.bq (u3 f8))
theorem x8:hS c8:=
 cO (hR [hD 1 6 [cA 0]]) (hq x21 hz) aK Tryz.call8 Tryz.func8
def f37(a0:bz)(a1:Int)(a2:Int)(a3:Int)(a4:Int):Option (Zh×MV):=
 (f44 a0.1).bind fun y1=>(ph a0 a3 a4 (decide (y1=(0:Int)))).bind fun⟨a,b,c,d,e,f,g,h,i,j⟩=>(rR a1 a2 a b c d e f g h i j).bind fun⟨k,l,m,n,o,p,q,r,s,t,u⟩=>if !k then(some (([]:Zh),(0,0,0,([]:Ze),()),0,([]:Zn),false,())) else((dD (a1,a2,0,()) l m n o p q r s t u).bind fun⟨_,_,_,_,_,_,_,_,_,w,v⟩=>some (v,w))
def aiW:SS:=⟨37,77,[tP 10 26,(11,.val (.slice 40 aR))],[(26,bV eE)],[]⟩
def c37:aZ:=aG G [.cell 10 79,.tmp 11] 37 [.val fF,vI,vI,vI,vI] [] 77 aiW [] (.bq (u5 f37))
theorem x37:hS c37:=
 cO (hR [hE 1 [cA 0,cB 1 [] [(75,36),(76,53),(77,54),(78,55)]],hE 2 [cB 2 [(0,36),(1,53),(2,54),(3,55)] []],hE 4 [cB 3 [(0,36),(1,53),(2,54),(3,55)] [(93,47)]]]) (hq x44 (hq Kg (hq Ep (hq vD hz)))) aK Tryz.call37 Tryz.func37
def f12(a0:bz)(a1:Int)(a2:Int)(a3:Int)(a4:Int):Option (Int×Zn×Bool):=
 (f37 a0 a1 a2 a3 a4).bind fun⟨_,a⟩=>some (a.2.1,a.2.2.1,a.2.2.2.1)
def aiX:SS:=⟨30,70,[tI 10,(11,.val (.slice 48 br)),(12,vB)],[],[]⟩
def c12:aZ:=aG G [.tmp 10,.tmp 11,.tmp 12] 12 [.val fF,vI,vI,vI,vI] [] 70 aiX [] (.bq (u5 f12))
theorem x12:hS c12:=
 cO (hR [hA 1 0]) (hq x37 hz) aK Tryz.call12 Tryz.func12
def G0:Nat→Ze×Int×Int×Int×Zo×Zn×Bool×Zo×Int×Int×Zn×Int×Int×Ze×Int×Int×bz×k9→Option (cJ (Ze×Int×Int×Int×Zo×Zn×Bool×Zo×Int×Int×Zn×Int×Int×bz×k9) (cJ Zas (cJ Zar (cJ Unit Bool)))):=aL fun rec17 ⟨f,g,h,i,j,k,d,l,m,n,o,p,q,c,b,a,r,e⟩=>if decide (a<b) then(if 0≤a then(if a<(c.length:Int) then(Option.bind (α:=Bool) (if d=true then(some true) else(some (decide ((nth (.int .i64) c a)=e.2.1)))) fun v18=>rec17 (f,g,h,i,j,k,v18,l,m,n,o,p,q,c,b,bp (a+1),r,e)) else none) else none) else(some (.brk (f,g,h,i,j,k,d,l,m,n,o,p,q,r,e)))
def G1:Nat→Zas→Option (cJ Zar (cJ Unit Bool)):=aL fun rec13 ⟨af,ag,ah,ai,aj,ak,al,am,an,ae,ad,ac,ao⟩=>if decide (ac<ad) then(aI (U:=Zas) (if 0≤ac then(if ac<(ae.length:Int) then(aI (U:=Ze×Int×Int×Int×Zo×Zn×Bool×Zo×Int×Int×Zn×Int×Int×bz×k9) (G0 (Int.toNat (af.length:Int)+1) (af,ag,ah,ai,aj,ak,false,al,am,an,ae,ad,ac,af,(af.length:Int),0,ao,nth br ae ac)) fun⟨d,e,f,g,h,b,a,i,j,k,l,m,n,o,c⟩=>Option.bind (α:=Bool) (if a=true then((f14 b c).bind fun y19=>some (!y19)) else(some false)) fun v20=>if v20=true then(bX (bX (bX (some false)))) else(some (.brk (d,e,f,g,h,b,i,j,k,l,m,n,o)))) else none) else none) fun⟨p,q,r,s,t,u,v,w,x,y,z,aa,ab⟩=>rec13 (p,q,r,s,t,u,v,w,x,y,z,bp (aa+1),ab)) else(some (.brk (af,ag,ah,ai,aj,al,am,an,ao)))
def xT:Nat→Zar→Zs:=aL fun rec8 ⟨o,p,q,r,s,n,m,l,t⟩=>if decide (l<m) then(aI (U:=Zar) (if 0≤l then(if l<(n.length:Int) then(if !decide ((nth bB n l).1=(1:Int)) then(some (.brk (o,p,q,r,s,n,m,l,t))) else((f12 t (nth bB n l).2.1 (nth bB n l).2.2.1 p r).bind fun⟨_,b,a⟩=>if !a then(some (.brk (o,p,q,r,s,n,m,l,t))) else(if 0≤l then(if l≤(s.length:Int) then((f13 t o p q r (oj s 0 (Int.toNat l))).bind fun y11=>G1 (Int.toNat (b.length:Int)+1) (o,p,q,r,s,y11,n,m,l,b,(b.length:Int),0,t)) else none) else none))) else none) else none) fun⟨c,d,e,f,g,h,i,j,k⟩=>rec8 (c,d,e,f,g,h,i,bp (j+1),k)) else(some (.brk ()))
def f5(a0:bz)(a1:Ze)(a2:Int)(a3:Int)(a4:Int)(a5:Zo)(a6:Bool):Zl:=
 (f7).bind fun y1=>if !y1 then(some false) else((f8 a0 a1 a5).bind fun y2=>if !y2 then(some true) else(aI (U:=Ze×Int×Int×Int×Zo×bz) (if a6=true then((f9 a0 a1 a2 a3 a4).bind fun y4=>some (.brk (a1,a2,a3,a4,y4,a0))) else(some (.brk (a1,a2,a3,a4,a5,a0)))) fun⟨b,c,d,e,f,a⟩=>(f11 a b c d e f).bind fun y5=>if !y5 then(some true) else(aI (U:=Unit) (xT (Int.toNat (f.length:Int)+1) (b,c,d,e,f,f,(f.length:Int),0,a)) fun _v6=>some true)))
def aiY:SS:=⟨110,150,[(1,.val (.slice 8 (.int .i64))),tI 2,tI 3,tI 4,(5,.val (.slice 32 bB)),tP 7 23],[(23,bV fF)],[]⟩
def aiZ:SS:=⟨110,150,[(1,.val (.slice 8 (.int .i64))),tI 2,tI 3,tI 4,(5,.val (.slice 32 bB)),tP 7 23,(20,.val (.slice 48 br)),tP 22 38,(23,vB),(48,.val (.slice 32 bB)),tI 49,tI 50,(81,.val (.slice 48 br)),tI 82,tI 83],[(23,bV fF),(38,bV br)],[]⟩
def Z9:SS:=⟨110,150,[(1,.val (.slice 8 (.int .i64))),tI 2,tI 3,tI 4,(5,.val (.slice 32 bB)),tP 7 23,(20,.val (.slice 48 br)),(48,.val (.slice 32 bB)),tI 49,tI 50,(81,.val (.slice 48 br)),tI 82,tI 83],[(23,bV fF)],[]⟩
def aaa:SS:=⟨110,150,[(1,.val (.slice 8 (.int .i64))),tI 2,tI 3,tI 4,(5,.val (.slice 32 bB)),tP 7 23,(48,.val (.slice 32 bB)),tI 49,tI 50],[(23,bV fF)],[]⟩
def ai0:SS:=⟨110,150,[],[],[]⟩
def ai1:SS:=⟨110,150,[(1,.val (.slice 8 (.int .i64))),tI 2,tI 3,tI 4,(5,.val (.slice 32 bB)),tP 7 23,(20,.val (.slice 48 br)),tP 22 38,(23,vB),(48,.val (.slice 32 bB)),tI 49,tI 50,(81,.val (.slice 48 br)),tI 82,tI 83,(87,.val (.slice 8 (.int .i64))),tI 88,tI 89],[(23,bV fF),(38,bV br)],[]⟩
def ai2:SS:=⟨110,150,[(14,vB)],[],[]⟩
def c5:aZ:=aG G [.tmp 14] 5 [.val fF,.val (.slice 8 (.int .i64)),vI,vI,vI,.val (.slice 32 bB),vB] [] 150 ai2 [] (.bq (fun d=>f5 d.1 d.2.1 d.2.2.1 d.2.2.2.1 d.2.2.2.2.1 d.2.2.2.2.2.1 d.2.2.2.2.2.2.1))
theorem x5:hS c5:=
 cO ⟨[hA 1 0,hA 3 1,hA 6 2,hA 7 3,hA 13 4,hA 15 5,hD 23 23 [],hD 25 107 [cA 6]],[(7,aiY),(25,aiZ),(27,Z9),(28,aaa),(29,ai0)],[],[(10,⟨aaa,fun u7=>Int.toNat u7.2.2.2.2.2.2.1+1⟩),(17,⟨Z9,fun JO=>Int.toNat JO.2.2.2.2.2.2.2.2.2.2.1+1⟩),(21,⟨ai1,fun u16=>Int.toNat u16.2.2.2.2.2.2.2.2.2.2.2.2.2.2.1+1⟩)],[],[]⟩ (hq x7 (hq x8 (hq x9 (hq x11 (hq x12 (hq x13 (hq lb hz))))))) aK Tryz.call5 Tryz.func5
end Go.Proofs.YtpmlkhjpbjnagaaGreat
