/- part -/
import Derived.Test.YtpmlkhjpbjnagaaGreatUX
noncomputable section
namespace Go.Proofs.YtpmlkhjpbjnagaaGreat
open Go.Ax
def LW(a0:Int)(a1:Int)(a2:bL)(a3:Zc)(a4:Int)(a5:Int)(a6:Bool)(a7:Zd)(a8:Unit)(a9:Zf)(a10:Ze)(a11:Zi):Option (Zm×Bool×Zr):=
 Option.bind (um a0 a1 a2 a3 a4 a5 a6 a7 a8 a9 a10 a11) fun⟨a,b,c,d,e,f,g,h,i,j,k⟩=>if(!a)=true then(some (([]:Zm),false,b,c,d,e,f,g,h,i,j,k)) else(Option.bind (d6 (a0,a1,0,()) b c d e f g h i j k) fun⟨m,n,o,p,q,r,s,t,u,l,v⟩=>some (l.2.2.1,l.2.2.2.1,m,n,o,p,q,r,s,t,u,v))
def ahZ:SS:=⟨23,63,[(6,.val (.slice 48 bN)),(7,vB)],[(0,fB 1 2 39),(1,.map aF dZ),(2,.map aM .bool),(39,.row 110 40 aM)],[]⟩
def UE:aX:=aE G [.tmp 6,.tmp 7] 60 [pP 0,vI,vI] Hd 63 ahZ [0,1,2,39] (.bH (LR LW))
theorem UF:hS UE:=
 cO (hR [hE 1 [cB 0 [(0,0),(1,1),(2,2),(3,3)] []],hE 3 [cB 1 [(0,0),(1,1),(2,2),(3,3)] [(93,34)]]]) (hq I9 (hq Bd hz)) aJ Tryz.call60 Tryz.func60
def Ii:Nat→Zp×Zm×Int×Int×Zap→Option (cH (Zp×Zap) (Bool×Zb)):=aK fun rec4 ⟨e,c,b,a,f,g,h,i,j,k,l,m,n,o,p,q,r,d⟩=>if(decide (a<b))=true then(if 0≤a then(if a<(c.length:Int) then(Option.bind (MM (nth bN c a)) fun y5=>if d.length+1≤aG then(rec4 (e,c,b,aZ (a+1),f,g,h,i,j,k,l,m,n,o,p,q,r,bC aF y5 true d)) else none) else none) else none) else(some (.bA (e,f,g,h,i,j,k,l,m,n,o,p,q,r,d)))
def EH:Nat→Zp×Int×Int×Zm×Zaj→Option (cH (Zp×Zaj) (cH Zak (cH Zb (Bool×Zb)))):=aK fun rec13 ⟨r,s,t,c,b,a,e,f,g,h,i,j,k,l,m,n,o,p,u,d,q⟩=>if(decide (a<b))=true then(if 0≤a then(if a<(c.length:Int) then(Option.bind (MM (nth bN c a)) fun y14=>if(aQ aF .bool y14 d)=true then(cw (cw (cw (some (false,e,f,g,h,i,j,k,l,m,n,o,p,q))))) else(rec13 (r,s,t,c,b,aZ (a+1),e,f,g,h,i,j,k,l,m,n,o,p,u,d,q))) else none) else none) else(some (.bA (r,s,t,e,f,g,h,i,j,k,l,m,n,o,p,u,d,q)))
def Ij:Nat→Zak→Option (cH Zb (Bool×Zb)):=aK fun rec8 ⟨ay,ax,aw,az,a0,a1,a2,a3,a4,a5,a6,a7,a8,a9,ba,bb,bc⟩=>if(decide (aw<ax))=true then(aH (U:=Zak) (if 0≤aw then(if aw<(ay.length:Int) then(if(!decide ((nth bY ay aw).1=(1:Int)))=true then(some (.bA (ay,ax,aw,az,a0,a1,a2,a3,a4,a5,a6,a7,a8,a9,ba,bb,bc))) else(Option.bind (LW (nth bY ay aw).2.1 (nth bY ay aw).2.2.1 a2 a3 a4 a5 a6 a7 a8 a9 ba bc) fun⟨a,_,b,c,d,e,f,g,h,i,j,k⟩=>aH (U:=Zp×Zaj) (EH (Int.toNat (a.length:Int)+1) (ay,ax,aw,a,(a.length:Int),0,az,a0,a1,b,c,d,e,f,g,h,i,j,nth bY ay aw,bb,k)) fun⟨l,m,n,o,p,q,r,s,t,u,v,w,x,y,z,aa,ab,ac⟩=>some (.bA (l,m,n,o,p,q,r,s,t,u,v,w,x,y,z,mZ aF (aa.2.1,aa.2.2.1,aa.2.2.2.1,()) ab,ac)))) else none) else none) fun⟨ad,ae,af,ag,ah,ai,aj,ak,al,am,an,ao,ap,aq,ar,au,av⟩=>rec8 (ad,ae,aZ (af+1),ag,ah,ai,aj,ak,al,am,an,ao,ap,aq,ar,au,av)) else(some (.bA (az,a0,a1,a2,a3,a4,a5,a6,a7,a8,a9,ba,bc)))
def AM(a0:Zp)(a1:Zh)(a2:Zh)(a3:Zg)(a4:bL)(a5:Zc)(a6:Int)(a7:Int)(a8:Bool)(a9:Zd)(a10:Unit)(a11:Zf)(a12:Ze)(a13:Zi):Option (Bool×Zb):=
 aH (U:=Zp×Zap) (Option.bind (po a1 a2 a3 a4 a5 a6 a7 a8 a9 a10 a11 a12 a13) fun⟨a,b,c,d,e,f,g,h,i,j,k,l,m,n⟩=>Ii (Int.toNat (a.length:Int)+1) (a0,a,(a.length:Int),0,b,c,d,e,f,g,h,i,j,k,l,m,n,([]:List (cF×Bool)))) fun⟨o,p,q,r,s,t,u,v,w,x,y,z,aa,ac,ab⟩=>aH (U:=Zb) (Ij (Int.toNat (o.length:Int)+1) (o,(o.length:Int),0,p,q,r,s,t,u,v,w,x,y,z,aa,ab,ac)) fun⟨ad,ae,af,ag,ah,ai,aj,ak,al,am,an,ao,ap⟩=>some (true,ad,ae,af,ag,ah,ai,aj,ak,al,am,an,ao,ap)
def YW:List (Nat×dj):=[(0,.var oc (.cons (.own 1) (.cons (.val (.map aF bN)) (.cons (.val (.map aF bN)) (.cons (pP 2) .nil))))),(1,.row 3 8 qr),(2,fB 3 4 5),(3,.map aF dZ),(4,.map aM .bool),(5,.row 110 40 aM),(30,.map aF .bool)]
def ah0:SS:=⟨67,107,[tP 0 0,(1,.val (.slice 32 bY)),(5,.mp 30)],YW,[]⟩
def YX:List (Nat×dj):=[(0,.var oc (.cons (.own 1) (.cons (.val (.map aF bN)) (.cons (.val (.map aF bN)) (.cons (pP 2) .nil))))),(1,.row 3 8 qr),(2,fB 3 4 60),(3,.map aF dZ),(4,.map aM .bool),(25,bV bY),(30,.map aF .bool),(60,.row 110 40 aM)]
def ah1:SS:=⟨67,107,[tP 0 0,(5,.mp 30),tP 9 25,(26,.val (.slice 32 bY)),tI 27,tI 28],YX,[]⟩
def ah2:SS:=⟨67,107,[tP 0 0,(5,.mp 30),(26,.val (.slice 32 bY)),tI 27,tI 28],[(0,.var oc (.cons (.own 1) (.cons (.val (.map aF bN)) (.cons (.val (.map aF bN)) (.cons (pP 2) .nil))))),(1,.row 3 8 qr),(2,fB 3 4 83),(3,.map aF dZ),(4,.map aM .bool),(30,.map aF .bool),(83,.row 110 40 aM)],[]⟩
def ah3:SS:=⟨67,107,[],[(0,.var oc (.cons (.own 1) (.cons (.val (.map aF bN)) (.cons (.val (.map aF bN)) (.cons (pP 2) .nil))))),(1,.row 3 8 qr),(2,fB 3 4 85),(3,.map aF dZ),(4,.map aM .bool),(85,.row 110 40 aM)],[]⟩
def ah4:SS:=⟨67,107,[tP 0 0,(1,.val (.slice 32 bY)),(5,.mp 30),(16,.val (.slice 48 bN)),tI 17,tI 18],YW,[]⟩
def ah5:SS:=⟨67,107,[tP 0 0,(5,.mp 30),(26,.val (.slice 32 bY)),tI 27,tI 28],[(0,.var oc (.cons (.own 1) (.cons (.val (.map aF bN)) (.cons (.val (.map aF bN)) (.cons (pP 2) .nil))))),(1,.row 3 8 qr),(2,fB 3 4 84),(3,.map aF dZ),(4,.map aM .bool),(30,.map aF .bool),(84,.row 110 40 aM)],[]⟩
def ah6:SS:=⟨67,107,[tP 0 0,(5,.mp 30),tP 9 25,(26,.val (.slice 32 bY)),tI 27,tI 28,(47,.val (.slice 48 bN)),tI 48,tI 49],YX,[]⟩
def ah7:SS:=⟨67,107,[(4,vB)],[(0,.var oc (.cons (.own 1) (.cons (.val (.map aF bN)) (.cons (.val (.map aF bN)) (.cons (pP 2) .nil))))),(1,.row 3 8 qr),(2,fB 3 4 86),(3,.map aF dZ),(4,.map aM .bool),(86,.row 110 40 aM)],[]⟩
def UG:aX:=aE G [.tmp 4] 36 [pP 0,.val (.slice 32 bY)] I0 107 ah7 [0,1,2,3,4,86] (.bH (MO AM))
theorem EI:hS UG:=
 cO ⟨[hE 2 [cB 0 [(0,0),(1,1),(2,2),(3,3),(4,4),(5,5)] []],hA 5 1,hE 11 [cB 2 [(0,2),(1,3),(2,4),(3,84)] [(39,60)]],hA 15 1],[(7,ah0),(18,ah1),(19,ah2),(20,ah3)],[],[(3,⟨ah4,fun u3=>Int.toNat u3.2.2.1+1⟩),(8,⟨ah5,fun u7=>Int.toNat u7.2.1+1⟩),(13,⟨ah6,fun LR=>Int.toNat LR.2.2.2.2.1+1⟩)],[],[]⟩ (hq AW (hq XO (hq UF hz))) aJ Tryz.call36 Tryz.func36
def LX(a0:bL)(a1:Zg)(a2:Int)(a3:Int)(a4:Int)(a5:Zp):Zo:=
 Option.bind (iF a0 a1 a2 a3 a4) fun⟨a,d,e,f,g,h,i,j,k,b,c,n,l,m⟩=>if a=true then(Option.bind (A6 a5 b c d e f g h i j k l m n) fun⟨o,p,q,r,s,t,u,v,w,x,y,z,aa,ab⟩=>if o=true then(Option.bind (nL a5 p q r s t u v w x y z aa ab) fun⟨ac,ad,ae,af,ag,ah,ai,aj,ak,al,am,an,ao,ap⟩=>if ac=true then(Option.bind (AM a5 ad ae af ag ah ai aj ak al am an ao ap) fun⟨aq,_,_,_,_,_,_,_,_,_,_,_,_,_⟩=>some aq) else(some false)) else(some false)) else(some false)
def Ik:SS:=⟨39,79,[(12,vB)],[],[]⟩
def UH:aX:=aE G [.tmp 12] 11 [.val fX,.val (.slice 8 qr),vI,vI,vI,.val (.slice 32 bY)] [] 79 Ik [] (.bH (u6 LX))
theorem UI:hS UH:=
 cO (hR [hE 1 [cB 0 [] [(41,36),(45,55),(47,56),(82,57),(88,58),(89,59)]],hE 2 [cB 1 [(0,56),(1,36),(2,55),(3,58),(4,59),(5,57)] [],cB 2 [(0,56),(1,36),(2,55),(3,58),(4,59),(5,57)] [],cB 3 [(0,56),(1,36),(2,55),(3,58),(4,59),(5,57)] [(86,53)]]]) (hq o9 (hq Fh (hq zH (hq EI hz)))) aJ Tryz.call11 Tryz.func11
def AN(_a0:Zp):Zo:=
 none
def ah8:SS:=⟨37,77,[(4,vB)],[],[]⟩
def UJ:aX:=aE G [.tmp 4] 34 [.fC,.val (.slice 32 bY)] [] 77 ah8 [] (.bH (u1 AN))
theorem EJ:hS UJ:=
 cO (hR [(0,⟨[],[],[],none,[(0,9999)],[],[]⟩)]) hz aJ Tryz.call34 Tryz.func34
def AO(_a0:Zp):Zo:=
 none
def ah9:SS:=⟨87,127,[(4,vB)],[],[]⟩
def UK:aX:=aE G [.tmp 4] 35 [.fC,.val (.slice 32 bY)] [] 127 ah9 [] (.bH (u1 AO))
theorem EK:hS UK:=
 cO (hR [(0,⟨[],[],[],none,[(0,9999)],[],[]⟩)]) hz aJ Tryz.call35 Tryz.func35
def AP(_a0:Zp):Zo:=
 none
def aia:SS:=⟨67,107,[(4,vB)],[],[]⟩
def UL:aX:=aE G [.tmp 4] 36 [.fC,.val (.slice 32 bY)] [] 107 aia [] (.bH (u1 AP))
theorem EL:hS UL:=
 cO (hR [(0,⟨[],[],[],none,[(0,9999)],[],[]⟩)]) hz aJ Tryz.call36 Tryz.func36
def LY(a0:bL)(a1:Zg)(a2:Int)(a3:Int)(a4:Int)(a5:Zp):Zo:=
 Option.bind (jb a0 a1 a2 a3 a4) fun y1=>Option.bind (α:=Bool) (if y1=true then(Option.bind (AN a5) fun y2=>if y2=true then(Option.bind (AO a5) fun y3=>if y3=true then(Option.bind (AP a5) fun y4=>some y4) else(some false)) else(some false)) else(some false)) fun v5=>some v5
def UM:aX:=aE G [.tmp 12] 11 [.val fX,.val (.slice 8 qr),vI,vI,vI,.val (.slice 32 bY)] [] 79 Ik [] (.bH (u6 LY))
theorem UN:hS UM:=
 cO (hR [hA 1 0,hD 2 12 [cA 1,cA 2,cA 3]]) (hq pq (hq EJ (hq EK (hq EL hz)))) aJ Tryz.call11 Tryz.func11
def f11(a0:bL)(a1:Zg)(a2:Int)(a3:Int)(a4:Int)(a5:Zp):Zo:=
 N3 (LX a0 a1 a2 a3 a4 a5) (LY a0 a1 a2 a3 a4 a5)
def c11:aX:=aE G [.tmp 12] 11 [.val fX,.val (.slice 8 qr),vI,vI,vI,.val (.slice 32 bY)] [] 79 Ik [] (.bH (u6 f11))
theorem x11:hS c11:=aX.or UI UN
def LZ(a0:bL)(a1:Zg)(a2:Int)(a3:Int)(a4:Int):Zo:=
 Option.bind (iF a0 a1 a2 a3 a4) fun⟨a,d,e,f,g,h,i,j,k,b,c,n,l,m⟩=>if a=true then(Option.bind (A6 ([]:Zp) b c d e f g h i j k l m n) fun⟨o,p,q,r,s,t,u,v,w,x,y,z,aa,ab⟩=>if o=true then(Option.bind (nL ([]:Zp) p q r s t u v w x y z aa ab) fun⟨ac,ad,ae,af,ag,ah,ai,aj,ak,al,am,an,ao,ap⟩=>if ac=true then(Option.bind (AM ([]:Zp) ad ae af ag ah ai aj ak al am an ao ap) fun⟨aq,_,_,_,_,_,_,_,_,_,_,_,_,_⟩=>some aq) else(some false)) else(some false)) else(some false)
def UP:aX:=aE G [.tmp 12] 11 [.val fX,.val (.slice 8 qr),vI,vI,vI,.bF] [] 79 Ik [] (.bH (u5 LZ))
theorem UQ:hS UP:=
 cO (hR [hE 1 [cB 0 [] [(41,36),(45,55),(47,56),(82,57),(88,58),(89,59)]],hE 2 [cB 1 [(0,56),(1,36),(2,55),(3,58),(4,59),(5,57)] [],cB 2 [(0,56),(1,36),(2,55),(3,58),(4,59),(5,57)] [],cB 3 [(0,56),(1,36),(2,55),(3,58),(4,59),(5,57)] [(86,53)]]]) (hq o9 (hq Fh (hq zH (hq EI hz)))) aJ Tryz.call11 Tryz.func11
def L0(a0:bL)(a1:Zg)(a2:Int)(a3:Int)(a4:Int):Zo:=
 Option.bind (jb a0 a1 a2 a3 a4) fun y1=>Option.bind (α:=Bool) (if y1=true then(Option.bind (AN ([]:Zp)) fun y2=>if y2=true then(Option.bind (AO ([]:Zp)) fun y3=>if y3=true then(Option.bind (AP ([]:Zp)) fun y4=>some y4) else(some false)) else(some false)) else(some false)) fun v5=>some v5
def UR:aX:=aE G [.tmp 12] 11 [.val fX,.val (.slice 8 qr),vI,vI,vI,.bF] [] 79 Ik [] (.bH (u5 L0))
theorem US:hS UR:=
 cO (hR [hA 1 0,hD 2 12 [cA 1,cA 2,cA 3]]) (hq pq (hq EJ (hq EK (hq EL hz)))) aJ Tryz.call11 Tryz.func11
def L1(a0:bL)(a1:Zg)(a2:Int)(a3:Int)(a4:Int):Zo:=
 N3 (LZ a0 a1 a2 a3 a4) (L0 a0 a1 a2 a3 a4)
def UT:aX:=aE G [.tmp 12] 11 [.val fX,.val (.slice 8 qr),vI,vI,vI,.bF] [] 79 Ik [] (.bH (u5 L1))
theorem UU:hS UT:=aX.or UQ US
def L2(a0:bL)(a1:Int)(a2:Int)(a3:Int):Zo:=
 Option.bind (iF a0 ([]:Zg) a1 a2 a3) fun⟨a,d,e,f,g,h,i,j,k,b,c,n,l,m⟩=>if a=true then(Option.bind (A6 ([]:Zp) b c d e f g h i j k l m n) fun⟨o,p,q,r,s,t,u,v,w,x,y,z,aa,ab⟩=>if o=true then(Option.bind (nL ([]:Zp) p q r s t u v w x y z aa ab) fun⟨ac,ad,ae,af,ag,ah,ai,aj,ak,al,am,an,ao,ap⟩=>if ac=true then(Option.bind (AM ([]:Zp) ad ae af ag ah ai aj ak al am an ao ap) fun⟨aq,_,_,_,_,_,_,_,_,_,_,_,_,_⟩=>some aq) else(some false)) else(some false)) else(some false)
def UW:SS:=⟨39,79,[(12,vB)],[],[]⟩
def UX:aX:=aE G [.tmp 12] 11 [.val fX,.bF,vI,vI,vI,.bF] [] 79 UW [] (.bH (u4 L2))
theorem UY:hS UX:=
 cO (hR [hE 1 [cB 0 [] [(41,36),(45,55),(47,56),(82,57),(88,58),(89,59)]],hE 2 [cB 1 [(0,56),(1,36),(2,55),(3,58),(4,59),(5,57)] [],cB 2 [(0,56),(1,36),(2,55),(3,58),(4,59),(5,57)] [],cB 3 [(0,56),(1,36),(2,55),(3,58),(4,59),(5,57)] [(86,53)]]]) (hq o9 (hq Fh (hq zH (hq EI hz)))) aJ Tryz.call11 Tryz.func11
def L4(a0:bL)(a1:Int)(a2:Int)(a3:Int):Zo:=
 Option.bind (jb a0 ([]:Zg) a1 a2 a3) fun y1=>Option.bind (α:=Bool) (if y1=true then(Option.bind (AN ([]:Zp)) fun y2=>if y2=true then(Option.bind (AO ([]:Zp)) fun y3=>if y3=true then(Option.bind (AP ([]:Zp)) fun y4=>some y4) else(some false)) else(some false)) else(some false)) fun v5=>some v5
def UZ:aX:=aE G [.tmp 12] 11 [.val fX,.bF,vI,vI,vI,.bF] [] 79 UW [] (.bH (u4 L4))
theorem U0:hS UZ:=
 cO (hR [hA 1 0,hD 2 12 [cA 1,cA 2,cA 3]]) (hq pq (hq EJ (hq EK (hq EL hz)))) aJ Tryz.call11 Tryz.func11
def L5(a0:bL)(a1:Int)(a2:Int)(a3:Int):Zo:=
 N3 (L2 a0 a1 a2 a3) (L4 a0 a1 a2 a3)
def U1:aX:=aE G [.tmp 12] 11 [.val fX,.bF,vI,vI,vI,.bF] [] 79 UW [] (.bH (u4 L5))
theorem U2:hS U1:=aX.or UY U0
def f7:Zo:=
 Option.bind (f18) fun y1=>Option.bind (f9 y1 [(3:Int)] (7:Int) (2:Int) (9:Int)) fun y2=>aH (U:=Zg×Zp×bL×Zm×Zp) (some (.bA ([(3:Int)],y2,y1,[(0,3,0,[(3:Int),(4:Int)],()),(1,3,0,[(3:Int),(4:Int)],())],[(1,1,3,0,()),(1,0,3,0,()),(2,0,3,0,()),(2,1,3,0,())]))) fun⟨d,a,c,e,b⟩=>Option.bind (f19 a b) fun y4=>if(!y4)=true then none else(if(2:Int)<(a.length:Int) then(if(0:Int)<(a.length:Int) then(if(1:Int)<(a.length:Int) then(if(3:Int)<(a.length:Int) then(if(1:Int)<(a.length:Int) then(if(0:Int)<(a.length:Int) then(if(2:Int)<(a.length:Int) then(if(3:Int)<(a.length:Int) then(if(1:Int)≤(a.length:Int) then(Option.bind (f13 c d (7:Int) (2:Int) (9:Int) (hJ a 0 (Int.toNat (1:Int)))) fun y5=>Option.bind (f13 c d (7:Int) (2:Int) (9:Int) a) fun y6=>aH (U:=Zg×Zm×Zm) (Option.bind (α:=Bool) (Option.bind (V2 c d (7:Int) (2:Int) (9:Int)) fun y8=>Option.bind (f20 y8 e) fun y9=>if(!y9)=true then(some true) else(Option.bind (ME c (7:Int) (2:Int) (9:Int)) fun y10=>if(!decide ((y10.length:Int)=(0:Int)))=true then(some true) else(Option.bind (V2 c d (7:Int) (2:Int) (8:Int)) fun y11=>if(!decide ((y11.length:Int)=(0:Int)))=true then(some true) else(Option.bind (f11 c d (7:Int) (2:Int) (9:Int) a) fun y12=>if(!y12)=true then(some true) else(Option.bind (f11 c d (7:Int) (2:Int) (9:Int) [nth bY a (2:Int),nth bY a (0:Int),nth bY a (1:Int),nth bY a (3:Int)]) fun y13=>if y13=true then(some true) else(Option.bind (f11 c d (7:Int) (2:Int) (9:Int) [nth bY a (1:Int),nth bY a (0:Int),nth bY a (2:Int),nth bY a (3:Int)]) fun y14=>if y14=true then(some true) else(Option.bind (L1 c d (7:Int) (2:Int) (8:Int)) fun y15=>some (!y15)))))))) fun v16=>if v16=true then none else(some (.bA (d,y5,y6)))) fun⟨h,f,g⟩=>Option.bind (α:=Bool) (if(decide ((f.length:Int)=(3:Int)))=true then(if(1:Int)<(f.length:Int) then(if(1:Int)<(List.length (nth bN f (1:Int)).2.2.2.1:Int) then(if(decide ((nth qr (nth bN f (1:Int)).2.2.2.1 (1:Int))=(4:Int)))=true then(if(2:Int)<(f.length:Int) then(if(1:Int)<(List.length (nth bN f (2:Int)).2.2.2.1:Int) then(if(decide ((nth qr (nth bN f (2:Int)).2.2.2.1 (1:Int))=(5:Int)))=true then(if(decide ((g.length:Int)=(2:Int)))=true then(if(0:Int)<(g.length:Int) then(if(1:Int)<(List.length (nth bN g (0:Int)).2.2.2.1:Int) then(if(decide ((nth qr (nth bN g (0:Int)).2.2.2.1 (1:Int))=(5:Int)))=true then(Option.bind (f9 (((([]:ZQ),([]:Zz),([]:ZK),([]:Zq),([]:ZN),([]:ZI),()),([]:Zg),()),([]:Zn),()) h (0:Int) (1:Int) (2:Int)) fun y17=>if(decide ((y17.length:Int)=(0:Int)))=true then(Option.bind (L5 (((([]:ZQ),([]:Zz),([]:ZK),([]:Zq),([]:ZN),([]:ZI),()),([]:Zg),()),([]:Zn),()) (0:Int) (1:Int) (2:Int)) fun y18=>some (!y18)) else(some false)) else(some false)) else none) else none) else(some false)) else(some false)) else none) else none) else(some false)) else none) else none) else(some false)) fun v19=>some v19) else none) else none) else none) else none) else none) else none) else none) else none) else none)
def aib:SS:=⟨155,195,[tP 1 17,(2,.val (.slice 8 qr)),(3,.own 32),(4,.val (.slice 32 bY)),(5,.own 40)],[(17,bV fX),(32,.row 50 48 bN),(40,.row 44 32 bY)],[]⟩
def aic:SS:=⟨155,195,[(2,.val (.slice 8 qr)),(8,.val (.slice 48 bN)),(9,.val (.slice 48 bN))],[],[]⟩
def aid:SS:=⟨155,195,[(0,vB)],[],[]⟩
def c7:aX:=aE G [.tmp 0] 7 [] [] 195 aid [] (.bH (fun _=>f7))
theorem x7:hS c7:=
 cO ⟨[hA 1 0,(3,⟨[],[(4,13,bN),(4,15,bN)],[],none,[],[],[]⟩),(4,⟨[.freeze 27 (.slice 8 qr)],[],[⟨[1],[],[],[],[]⟩],none,[],[],[]⟩),hA 6 2,(7,⟨[],[],[],none,[(0,9999)],[],[]⟩),hA 10 3,hA 11 3,hD 12 107 [cA 4,cA 5,cA 6,cA 4,cA 7,cA 7,cA 7,cA 8],(13,⟨[],[],[],none,[(0,9999)],[],[]⟩),hD 14 0 [cA 1,cA 9]],[(6,aib),(14,aic)],[],[],[],[]⟩ (hq x18 (hq x9 (hq x19 (hq x13 (hq x15 (hq x20 (hq Wa (hq x11 (hq UU (hq U2 hz)))))))))) aJ Tryz.call7 Tryz.func7
def G3:Zax:=aK fun am3 ⟨a,b⟩=>if(decide (a<(List.length b.2.2.1:Int)))=true then(Option.bind (α:=Bool) (if 0≤a then(if a<(List.length b.2.2.1:Int) then(if(decide ((6:Int)<(List.length (nth bR b.2.2.1 a).2.2.2.2.1:Int)))=true then(some true) else(if 0≤a then(if a<(List.length b.2.2.1:Int) then(some (decide ((4:Int)<(List.length (nth bR b.2.2.1 a).2.2.2.2.2.1:Int)))) else none) else none)) else none) else none) fun v4=>if v4=true then(cw (some false)) else(am3 (aZ (a+1),b))) else(some (.bA b))
def G4:Zax:=aK fun rec7 ⟨a,b⟩=>if(decide (a<(List.length b.2.2.2.1:Int)))=true then(Option.bind (α:=Bool) (if 0≤a then(if a<(List.length b.2.2.2.1:Int) then(if(decide ((4:Int)<(List.length (nth bZ b.2.2.2.1 a).2.2.1:Int)))=true then(some true) else(if 0≤a then(if a<(List.length b.2.2.2.1:Int) then(if(decide ((5:Int)<(List.length (nth bZ b.2.2.2.1 a).2.2.2.1:Int)))=true then(some true) else(if 0≤a then(if a<(List.length b.2.2.2.1:Int) then(some (decide ((6:Int)<(List.length (nth bZ b.2.2.2.1 a).2.2.2.2.1:Int)))) else none) else none)) else none) else none)) else none) else none) fun v8=>if v8=true then(cw (some false)) else(rec7 (aZ (a+1),b))) else(some (.bA b))
def CM:Zax:=aK fun rec11 ⟨a,b⟩=>if(decide (a<(List.length b.2.2.2.2.1:Int)))=true then(if 0≤a then(if a<(List.length b.2.2.2.2.1:Int) then(if(decide ((6:Int)<(List.length (nth gA b.2.2.2.2.1 a).2.2.2.2.1:Int)))=true then(cw (some false)) else(rec11 (aZ (a+1),b))) else none) else none) else(some (.bA b))
def CN:Zax:=aK fun rec14 ⟨a,b⟩=>if(decide (a<(List.length b.2.2.2.2.2.1:Int)))=true then(if 0≤a then(if a<(List.length b.2.2.2.2.2.1:Int) then(if(decide ((10:Int)<(List.length (nth dY b.2.2.2.2.2.1 a).2.1:Int)))=true then(cw (some false)) else(rec14 (aZ (a+1),b))) else none) else none) else(some (.bA b))
def L6(a0:cM):Zo:=
 aH (U:=cM) (G3 eP (0,a0)) fun v1=>aH (U:=cM) (G4 eP (0,v1)) fun v5=>aH (U:=cM) (CM eP (0,v5)) fun v9=>aH (U:=cM) (CN eP (0,v9)) fun v12=>Option.bind (α:=Bool) (if(decide ((List.length v12.1:Int)≤(4:Int)))=true then(if(decide ((List.length v12.2.1:Int)≤(5:Int)))=true then(if(decide ((List.length v12.2.2.1:Int)≤(6:Int)))=true then(if(decide ((List.length v12.2.2.2.1:Int)≤(4:Int)))=true then(if(decide ((List.length v12.2.2.2.2.1:Int)≤(4:Int)))=true then(some (decide ((List.length v12.2.2.2.2.2.1:Int)≤(4:Int)))) else(some false)) else(some false)) else(some false)) else(some false)) else(some false)) fun v15=>some v15
def Rg:SS:=⟨131,171,[tP 1 17],[(17,bV iI)],[]⟩
def aie:SS:=⟨131,171,[tP 1 17,tI 3],[(17,bV iI)],[]⟩
def aif:SS:=⟨131,171,[tP 1 17,tI 4],[(17,bV iI)],[]⟩
def aih:SS:=⟨131,171,[tP 1 17,tI 5],[(17,bV iI)],[]⟩
def aii:SS:=⟨131,171,[tP 1 17,tI 6],[(17,bV iI)],[]⟩
def aij:SS:=⟨131,171,[(2,vB)],[],[]⟩
def aik:aX:=aE G [.tmp 2] 108 [.val iI] [] 171 aij [] (.bH (u1 L6))
theorem ail:hS aik:=
 cO ⟨[hD 4 31 [],hD 9 66 [],hD 21 2 []],[(6,Rg),(11,Rg),(16,Rg),(21,Rg)],[],[(2,⟨aie,fun _=>eP⟩),(7,⟨aif,fun _=>eP⟩),(12,⟨aih,fun _=>eP⟩),(17,⟨aii,fun _=>eP⟩)],[],[]⟩ hz aJ Tryz.call108 Tryz.func108
def f72(a0:Ba):Zo:=
 Option.bind (α:=Bool) (Option.bind (L6 a0.1) fun y1=>if y1=true then(some (decide ((List.length a0.2.1:Int)≤(20:Int)))) else(some false)) fun v2=>some v2
def ain:SS:=⟨12,52,[(2,vB)],[],[]⟩
def c72:aX:=aE G [.tmp 2] 72 [.val EF] [] 52 ain [] (.bH (u1 f72))
theorem x72:hS c72:=
 cO (hR [hD 1 2 [cA 0]]) (hq ail hz) aJ Tryz.call72 Tryz.func72
def f49(a0:bL):Zo:=
 Option.bind (α:=Bool) (Option.bind (f72 a0.1) fun y1=>if y1=true then(some (decide ((List.length a0.2.1:Int)≤(60:Int)))) else(some false)) fun v2=>some v2
def aio:SS:=⟨12,52,[(2,vB)],[],[]⟩
def c49:aX:=aE G [.tmp 2] 49 [.val fX] [] 52 aio [] (.bH (u1 f49))
theorem x49:hS c49:=
 cO (hR [hD 1 2 [cA 0]]) (hq x72 hz) aJ Tryz.call49 Tryz.func49
def L7:Nat→Int×bL×cM→Option (cH (bL×cM) Bool):=aK fun am3 ⟨a,c,b⟩=>if(decide (a<(List.length b.2.2.2.1:Int)))=true then(if 0≤a then(if a<(List.length b.2.2.2.1:Int) then(if(decide ((3:Int)<(List.length (nth bZ b.2.2.2.1 a).2.2.1:Int)))=true then(cw (some false)) else(am3 (aZ (a+1),c,b))) else none) else none) else(some (.bA (c,b)))
def YY(a0:bL):Zo:=
 aH (U:=bL×cM) (L7 eP (0,a0,a0.1.1)) fun⟨a,b⟩=>Option.bind (α:=Bool) (Option.bind (f49 a) fun y4=>if y4=true then(if(decide ((List.length b.2.2.1:Int)≤(6:Int)))=true then(some (decide ((List.length b.2.2.2.1:Int)≤(5:Int)))) else(some false)) else(some false)) fun v5=>some v5
def aip:SS:=⟨37,77,[tP 1 17,tP 3 19],[(17,bV fX),(19,bV iI)],[]⟩
def aiq:SS:=⟨37,77,[tP 1 17,tP 3 19,tI 4],[(17,bV fX),(19,bV iI)],[]⟩
def air:SS:=⟨37,77,[(2,vB)],[],[]⟩
def c21:aX:=aE G [.tmp 2] 21 [.val fX] [] 77 air [] (.bH (u1 YY))
theorem x21:hS c21:=
 cO ⟨[hD 7 2 [cA 0]],[(7,aip)],[],[(3,⟨aiq,fun _=>eP⟩)],[],[]⟩ (hq x49 hz) aJ Tryz.call21 Tryz.func21
def G5(a0:bL)(a1:Zg):Zo:=
 Option.bind (α:=Bool) (Option.bind (YY a0) fun y1=>if y1=true then(if(decide ((a1.length:Int)≤(4:Int)))=true then(some (decide (((0:Nat):Int)≤(30:Int)))) else(some false)) else(some false)) fun v2=>some v2
def ais:SS:=⟨19,59,[(6,vB)],[],[]⟩
def YZ:aX:=aE G [.tmp 6] 8 [.val fX,.val (.slice 8 qr),.bF] [] 59 ais [] (.bH (u2 G5))
theorem Y0:hS YZ:=
 cO (hR [hD 1 6 [cA 0]]) (hq x21 hz) aJ Tryz.call8 Tryz.func8
def f16(a0:bL)(a1:Int)(a2:Int)(a3:Int):Option (Zm×Zi):=
 Option.bind (C3 a0.1) fun y1=>Option.bind (qT a0 a2 a3 (decide (y1=(0:Int)))) fun⟨a,b,c,d,e,f,g,h,i,j⟩=>Option.bind (mX a1 a b c d e f g h i j) fun⟨k,_,_,_,_,_,_,_,_,_,l⟩=>some (k,l)
def ait:SS:=⟨27,67,[(8,.val (.slice 48 bN)),(9,.val (.slice 40 aM))],[],[]⟩
def c16:aX:=aE G [.tmp 8,.tmp 9] 16 [.val fX,vI,vI,vI] [] 67 ait [] (.bH (u4 f16))
theorem x16:hS c16:=
 cO (hR [hE 1 [cA 0,cB 1 [] [(75,34),(76,43),(77,44),(78,45)]],hE 2 [cB 2 [(0,34),(1,43),(2,44),(3,45)] [(70,37)]]]) (hq x44 (hq I8 (hq Lj hz))) aJ Tryz.call16 Tryz.func16
def L8:Nat→Zn×Int×Int×ZS→Option (cH ZS Zc):=aK fun am3 ⟨c,b,a,d⟩=>if(decide (a<b))=true then(if 0≤a then(if a<(c.length:Int) then(if bD aF (nth aW c a).1 (nth aW c a).1=true then(if d.length+1≤aG then(if(List.length (aQ aF (.slice 64 aW) (nth aW c a).1 d)+List.length [nth aW c a])*64≤aG then(am3 (c,b,aZ (a+1),bC aF (nth aW c a).1 ((aQ aF (.slice 64 aW) (nth aW c a).1 d)++[nth aW c a]) (bC aF (nth aW c a).1 (Ty.aD (.slice 64 aW)) d))) else none) else none) else none) else none) else none) else(some (.bA d))
def Y1(a0:Zn):Option Zc:=
 aH (U:=ZS) (L8 (Int.toNat (a0.length:Int)+1) (a0,(a0.length:Int),0,([]:ZS))) fun v1=>some (some v1)
def aiu:SS:=⟨24,64,[(3,.mp 22)],[(22,.pmap aF (.slice 64 aW) 139)],[]⟩
def aiv:SS:=⟨24,64,[(3,.mp 22),(7,.val (.slice 64 aW)),tI 8,tI 9],[(22,.pmap aF (.slice 64 aW) 139)],[]⟩
def aiw:SS:=⟨24,64,[(2,.val (.map aF (.slice 64 aW)))],[],[]⟩
def c46:aX:=aE G [.tmp 2] 46 [.val (.slice 64 aW)] [] 64 aiw [] (.bH (u1 Y1))
theorem x46:hS c46:=
 cO ⟨[(2,⟨[.Kc 22 139],[],[],none,[],[],[]⟩),(5,⟨[],[],[],none,[],[.map 2 22 40 (.c 5 [.cV 0]),.eK 22],[.tQ 22,.lT 22]⟩),(7,⟨[.IV 22],[],[],none,[],[],[]⟩)],[(7,aiu)],[],[(3,⟨aiv,fun u2=>Int.toNat u2.2.1+1⟩)],[],[]⟩ hz aJ Tryz.call46 Tryz.func46
def pn(l_:Nat)(Y_:fq×YC×Nat×Nat×Zn×Unit→Option (Bool×Sw)):Nat→Nat×cF×Int×Zn×Int×Int×Sw→Option (cH Sw Sw):=aK fun am3 ⟨k,i,j,h,g,f,l,m,n,o⟩=>if(decide (f<g))=true then(if 0≤f then(if f<(h.length:Int) then(if(bD aF (nth aW h f).1 i)=true then(if(decide ((nth aW h f).2.2.2.1≤j))=true then(if k=l_ then(Option.bind (Y_ (nth aW h f,l,m,n,o,())) fun⟨a,b,c,d,e⟩=>if(!a)=true then(cw (some (b,c,d,e))) else(am3 (k,i,j,h,g,aZ (f+1),b,c,d,e))) else none) else(am3 (k,i,j,h,g,aZ (f+1),l,m,n,o))) else(am3 (k,i,j,h,g,aZ (f+1),l,m,n,o))) else none) else none) else(some (.bA (l,m,n,o)))
def AR(l_:Nat)(Y_:fq×YC×Nat×Nat×Zn×Unit→Option (Bool×Sw))(a0:Nat)(a1:Zn)(a2:cF)(a3:Int)(a4:YC)(a5:Nat)(a6:Nat)(a7:Zn):Option Sw:=
 aH (U:=Sw) (pn l_ Y_ (Int.toNat (a1.length:Int)+1) (a0,a2,a3,a1,(a1.length:Int),0,a4,a5,a6,a7)) fun⟨a,b,c,d⟩=>some (a,b,c,d)
def aix:SS:=⟨30,70,[],[(0,.lp),(1,.tv (.slice 64 aW) (.own 48)),(48,.row 139 64 aW)],[]⟩
def aiy:SS:=⟨30,70,[(0,.zg),(2,.cb aF),(3,.cb qr),(7,.val (.slice 64 aW)),tI 8,tI 9],[(0,.lp),(1,.tv (.slice 64 aW) (.own 47)),(47,.row 139 64 aW)],[]⟩
def aiz:SS:=⟨30,70,[],[(0,.lp),(1,.tv (.slice 64 aW) (.own 49)),(49,.row 139 64 aW)],[]⟩
def Y2:List (Nat×dj):=[(0,.lp),(1,.tv (.slice 64 aW) (.own 2)),(2,.row 139 64 aW)]
def AT:IC:=⟨[.val aW],Y2,53,0,[(1,.tv (.slice 64 aW) (.own 27)),(27,.row 139 64 aW)],fun l f=>aE G [] 107 [.zg,.cb (.slice 64 aW),.cb aF,.cb qr] Y2 70 aiz [0,1,49] (.bH (u8 (AR l f)))⟩
theorem Rh:AT.holds Tryz.prog gl:=fun B hB l f hY=>
 aX.of tied (H:=⟨[hE 3 [cB 0 [(0,0),(1,1),(2,47)] [(27,46)]]],[],[(0,aix)],[(1,⟨aiy,fun u2=>Int.toNat u2.2.2.2.2.1+1⟩)],[],[]⟩) (hold (l:=[IC.Y AT l f]) ⟨hY,trivial⟩) aJ rfl Tryz.call107 Tryz.func107 rfl rfl rfl rfl (fun _=>by kernel_rfl) (fun _=>by kernel_rfl)
def lK(y_:YC)(b3_0:fq)(yt:YC)(yj:Nat)(g1:Nat)(c3_0:Zn):Option (Bool×Sw):=
 IW yt y_ (if yj=0 then(if g1=y_.gs 1 then(Option.bind (α:=Nat×Nat×Zn) (if(List.length c3_0+List.length [b3_0])*64≤aG then(some (0,y_.gs 1,c3_0++[b3_0])) else none) fun r_=>if r_.2.1=y_.gs 1 then(some (Nat.beq r_.1 0,y_,r_.1,r_.2.1,r_.2.2)) else none) else none) else none)
def AU(a0:Zn)(a1:cF)(a2:Int):Option Zn:=
 aH (U:=Zn) (vr fun y2=>Option.bind (AR y2.l (fun d=>lK y2 d.1 d.2.1 d.2.2.1 d.2.2.2.1 d.2.2.2.2.1) y2.l a0 a1 a2 y2 0 (y2.gs 1) ([]:Zn)) fun⟨a,b,_,c⟩=>IW a y2 (if b=0 then(some (.bA c)) else none)) fun v1=>some v1
def aiA:SS:=⟨13,53,[tP 2 18],[(18,.var (.slice 64 aW) (.own 32)),(30,.sY),(32,.row 139 64 aW)],[.mp 30]⟩
def aiB:SS:=⟨13,53,[tP 2 18,(4,.bF),(6,.func 107 .nil (.cons (.cb (.slice 64 aW)) (.cons (.cb aF) (.cons (.cb qr) .nil))))],[(18,.var (.slice 64 aW) (.own 29)),(29,.row 139 64 aW)],[]⟩
def aiC:SS:=⟨13,53,[],[(1,.var (.slice 64 aW) (.own 27)),(27,.row 139 64 aW)],[]⟩
def aiD:SS:=⟨13,53,[(4,.val (.slice 64 aW))],[],[]⟩
def Rj:aX:=aE G [.tmp 4] 106 [.bF,.func 107 .nil (.cons (.cb (.slice 64 aW)) (.cons (.cb aF) (.cons (.cb qr) .nil)))] [] 53 aiD [] (.bH (u3 AU))
theorem Rk:hS Rj:=
 cO ⟨[],[(4,aiA)],[],[],[],[(3,⟨0,30,31,[(1,.slice 64 aW)],[(18,1)],[],[(0,31),(1,18),(2,29)],[(49,32)],aiB,aiC⟩)]⟩ hz (xL (L:=[AT]) ⟨Rh,trivial⟩) Tryz.call106 Tryz.func106
def EM(a0:Zn)(a1:cF)(a2:Int):Option Zn:=
 Option.bind (AU a0 a1 a2) fun y1=>some y1
def Y3:SS:=⟨5,45,[(2,.val (.slice 64 aW))],[],[]⟩
def U3:aX:=aE G [.tmp 2] 69 [.func 107 .nil (.cons (.cb (.slice 64 aW)) (.cons (.cb aF) (.cons (.cb qr) .nil)))] [] 45 Y3 [] (.bH (u3 EM))
theorem U4:hS U3:=
 cO (hR [hA 1 0]) (hq Rk hz) aJ Tryz.call69 Tryz.func69
end Go.Proofs.YtpmlkhjpbjnagaaGreat
