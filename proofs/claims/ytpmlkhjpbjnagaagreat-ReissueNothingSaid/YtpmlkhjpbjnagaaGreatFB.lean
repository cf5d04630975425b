/- part -/
import Derived.Test.YtpmlkhjpbjnagaaGreatUV
noncomputable section
namespace Go.Proofs.YtpmlkhjpbjnagaaGreat
open Go.Ax
def MB(a0:bL)(a1:Zg)(a2:Int)(a3:Int)(a4:Int)(_a5:Zp):ZV:=
 Option.bind (jb a0 a1 a2 a3 a4) fun y1=>if(!y1)=true then none else none
def VW:aX:=aE G [.tmp 12] 13 [.val fX,.val (.slice 8 qr),vI,vI,vI,.val (.slice 32 bY)] [] 123 Rz [] (.bH (u6 MB))
theorem VX:hS VW:=
 cO (hR [hA 1 0,(3,⟨[],[],[],none,[(0,9999)],[],[]⟩),(4,⟨[],[],[],none,[(0,9999)],[],[]⟩)]) (hq pq hz) aJ Tryz.call13 Tryz.func13
def f13(a0:bL)(a1:Zg)(a2:Int)(a3:Int)(a4:Int)(a5:Zp):ZV:=
 N3 (uj a0 a1 a2 a3 a4 a5) (MB a0 a1 a2 a3 a4 a5)
def c13:aX:=aE G [.tmp 12] 13 [.val fX,.val (.slice 8 qr),vI,vI,vI,.val (.slice 32 bY)] [] 123 Rz [] (.bH (u6 f13))
theorem x13:hS c13:=aX.or Ry VX
def Ff(a0:bL)(a1:Zg)(a2:Int)(a3:Int)(a4:Int):ZV:=
 Option.bind (iF a0 a1 a2 a3 a4) fun⟨a,d,e,f,g,h,i,j,k,b,c,n,l,m⟩=>if(!a)=true then(some ([]:Zm)) else(Option.bind (lL b c d e f g h i j k l m n) fun⟨o,_,_,_,_,_,_,_,_,_,_,_,_,_⟩=>some o)
def IM:SS:=⟨26,66,[(10,.val (.slice 48 bN))],[],[]⟩
def VY:aX:=aE G [.tmp 10] 15 [.val fX,.val (.slice 8 qr),vI,vI,vI] [] 66 IM [] (.bH (u5 Ff))
theorem VZ:hS VY:=
 cO (hR [hE 1 [cB 0 [] [(41,35),(45,42),(47,43),(82,44),(88,45),(89,46)]],hE 4 [cB 1 [(0,43),(1,35),(2,42),(3,45),(4,46),(5,44)] []]]) (hq o9 (hq wK hz)) aJ Tryz.call15 Tryz.func15
def Fg(a0:bL)(a1:Zg)(a2:Int)(a3:Int)(a4:Int):ZV:=
 Option.bind (jb a0 a1 a2 a3 a4) fun y1=>if(!y1)=true then(some ([]:Zm)) else none
def V0:aX:=aE G [.tmp 10] 15 [.val fX,.val (.slice 8 qr),vI,vI,vI] [] 66 IM [] (.bH (u5 Fg))
theorem V1:hS V0:=
 cO (hR [hA 1 0,(4,⟨[],[],[],none,[(0,9999)],[],[]⟩)]) (hq pq hz) aJ Tryz.call15 Tryz.func15
def V2(a0:bL)(a1:Zg)(a2:Int)(a3:Int)(a4:Int):ZV:=
 N3 (Ff a0 a1 a2 a3 a4) (Fg a0 a1 a2 a3 a4)
def c15:aX:=aE G [.tmp 10] 15 [.val fX,.val (.slice 8 qr),vI,vI,vI] [] 66 IM [] (.bH (u5 V2))
theorem x15:hS c15:=aX.or VZ V1
def f65(a0:mi)(a1:mi):Zo:=
 Option.bind (α:=Bool) (if(decide (a0.1=a1.1))=true then(if(decide (a0.2.1=a1.2.1))=true then(some (decide (a0.2.2.1=a1.2.2.1))) else(some false)) else(some false)) fun v1=>some v1
def aju:SS:=⟨24,64,[(4,vB)],[],[]⟩
def c65:aX:=aE G [.tmp 4] 65 [.val bN,.val bN] [] 64 aju [] (.bH (u2 f65))
theorem x65:hS c65:=
 cO (hR [hD 1 4 []]) hz aJ Tryz.call65 Tryz.func65
def V3:Nat→Int×mi×mi→Zy:=aK fun anC ⟨a,b,c⟩=>if(decide (a<(List.length b.2.2.2.1:Int)))=true then(if 0≤a then(if a<(List.length b.2.2.2.1:Int) then(if 0≤a then(if a<(List.length c.2.2.2.1:Int) then(if(!decide ((nth qr b.2.2.2.1 a)=(nth qr c.2.2.2.1 a)))=true then none else(anC (aZ (a+1),b,c))) else none) else none) else none) else none) else(some (.bA ()))
def f42(a0:mi)(a1:mi):Zo:=
 aH (U:=mi×mi) (Option.bind (α:=Bool) (Option.bind (f65 a0 a1) fun y2=>if(!y2)=true then(some true) else(some (!decide ((List.length a0.2.2.2.1:Int)=(List.length a1.2.2.2.1:Int))))) fun v3=>if v3=true then none else(some (.bA (a0,a1)))) fun⟨a,b⟩=>aH (U:=Unit) (V3 eP (0,a,b)) fun _=>some true
def ajv:SS:=⟨37,77,[tP 2 18,tP 3 19],[(18,bV bN),(19,bV bN)],[]⟩
def ajw:SS:=⟨37,77,[],[],[]⟩
def ajx:SS:=⟨37,77,[tP 2 18,tP 3 19,tI 5],[(18,bV bN),(19,bV bN)],[]⟩
def ajy:SS:=⟨37,77,[(4,vB)],[],[]⟩
def c42:aX:=aE G [.tmp 4] 42 [.val bN,.val bN] [] 77 ajy [] (.bH (u2 f42))
theorem x42:hS c42:=
 cO ⟨[hD 1 18 [cA 0],(2,⟨[],[],[],none,[(0,9999)],[],[]⟩),(7,⟨[],[],[],none,[(0,9999)],[],[]⟩)],[(3,ajv),(8,ajw)],[],[(4,⟨ajx,fun _=>eP⟩)],[],[]⟩ (hq x65 hz) aJ Tryz.call42 Tryz.func42
def V4:Nat→Zm×Zm×Int→Zy:=aK fun am3 ⟨b,c,a⟩=>if(decide (a<(b.length:Int)))=true then(if 0≤a then(if a<(b.length:Int) then(if 0≤a then(if a<(c.length:Int) then(Option.bind (f42 (nth bN b a) (nth bN c a)) fun y4=>if(!y4)=true then none else(am3 (b,c,aZ (a+1)))) else none) else none) else none) else none) else(some (.bA ()))
def f20(a0:Zm)(a1:Zm):Zo:=
 if(!decide ((a0.length:Int)=(a1.length:Int)))=true then none else(aH (U:=Unit) (V4 eP (a0,a1,0)) fun _=>some true)
def ajz:SS:=⟨27,67,[],[],[]⟩
def ajA:SS:=⟨27,67,[(0,.val (.slice 48 bN)),(1,.val (.slice 48 bN)),tI 5],[],[]⟩
def ajB:SS:=⟨27,67,[(4,vB)],[],[]⟩
def c20:aX:=aE G [.tmp 4] 20 [.val (.slice 48 bN),.val (.slice 48 bN)] [] 67 ajB [] (.bH (u2 f20))
theorem x20:hS c20:=
 cO ⟨[(2,⟨[],[],[],none,[(0,9999)],[],[]⟩),hA 6 0,(7,⟨[],[],[],none,[(0,9999)],[],[]⟩)],[(8,ajz)],[],[(4,⟨ajA,fun _=>eP⟩)],[],[]⟩ (hq x42 hz) aJ Tryz.call20 Tryz.func20
def MC(a0:bL)(a1:Int)(a2:Int)(a3:Int):ZV:=
 Option.bind (iF a0 ([]:Zg) a1 a2 a3) fun⟨a,d,e,f,g,h,i,j,k,b,c,n,l,m⟩=>if(!a)=true then(some ([]:Zm)) else(Option.bind (lL b c d e f g h i j k l m n) fun⟨o,_,_,_,_,_,_,_,_,_,_,_,_,_⟩=>some o)
def V5:aX:=aE G [.tmp 10] 15 [.val fX,.bF,vI,vI,vI] [] 66 IM [] (.bH (u4 MC))
theorem V6:hS V5:=
 cO (hR [hE 1 [cB 0 [] [(41,35),(45,42),(47,43),(82,44),(88,45),(89,46)]],hE 4 [cB 1 [(0,43),(1,35),(2,42),(3,45),(4,46),(5,44)] []]]) (hq o9 (hq wK hz)) aJ Tryz.call15 Tryz.func15
def MD(a0:bL)(a1:Int)(a2:Int)(a3:Int):ZV:=
 Option.bind (jb a0 ([]:Zg) a1 a2 a3) fun y1=>if(!y1)=true then(some ([]:Zm)) else none
def V7:aX:=aE G [.tmp 10] 15 [.val fX,.bF,vI,vI,vI] [] 66 IM [] (.bH (u4 MD))
theorem V8:hS V7:=
 cO (hR [hA 1 0,(4,⟨[],[],[],none,[(0,9999)],[],[]⟩)]) (hq pq hz) aJ Tryz.call15 Tryz.func15
def ME(a0:bL)(a1:Int)(a2:Int)(a3:Int):ZV:=
 N3 (MC a0 a1 a2 a3) (MD a0 a1 a2 a3)
def V9:aX:=aE G [.tmp 10] 15 [.val fX,.bF,vI,vI,vI] [] 66 IM [] (.bH (u4 ME))
theorem Wa:hS V9:=aX.or V6 V8
def IN:Nat→Zm×Zm×Int×Int×ZH→Option (cH (Zm×ZH) ZH):=aK fun am3 ⟨e,c,b,a,d⟩=>if(decide (a<b))=true then(if 0≤a then(if a<(c.length:Int) then(Option.bind (U6 (2:Int) (nth bN c a)) fun y4=>Option.bind (MM (nth bN c a)) fun y5=>if d.length+1≤aG then(am3 (e,c,b,aZ (a+1),bC bY y4 (y5,false,()) d)) else none) else none) else none) else(some (.bA (e,d)))
def IP:Nat→Zm×Int×Int×ZH→Option (cH ZH ZH):=aK fun rec8 ⟨c,b,a,d⟩=>if(decide (a<b))=true then(if 0≤a then(if a<(c.length:Int) then(Option.bind (U6 (1:Int) (nth bN c a)) fun y9=>Option.bind (MM (nth bN c a)) fun y10=>if d.length+1≤aG then(rec8 (c,b,aZ (a+1),bC bY y9 (y10,true,()) d)) else none) else none) else none) else(some (.bA d))
def MF(a0:Zm)(a1:Zm):Option ZH:=
 aH (U:=Zm×ZH) (IN (Int.toNat (a0.length:Int)+1) (a1,a0,(a0.length:Int),0,([]:ZH))) fun⟨a,b⟩=>aH (U:=ZH) (IP (Int.toNat (a.length:Int)+1) (a,(a.length:Int),0,b)) fun v6=>some v6
def ajC:SS:=⟨38,78,Z3,[(26,.map bY dX)],[]⟩
def ajD:SS:=⟨38,78,[(5,.mp 26)],[(26,.map bY dX)],[]⟩
def ajE:SS:=⟨38,78,Z4,[(26,.map bY dX)],[]⟩
def ajF:SS:=⟨38,78,Z5,[(26,.map bY dX)],[]⟩
def ajG:SS:=⟨38,78,[(4,.mp 26)],[(26,.map bY dX)],[]⟩
def Wb:aX:=aE G [.tmp 4] 58 [.val (.slice 48 bN),.val (.slice 48 bN)] [] 78 ajG [26] (.bH (u2 MF))
theorem Wc:hS Wb:=
 cO ⟨[hE 5 [cA 0,cA 1],hE 10 [cA 0,cA 1]],[(7,ajC),(12,ajD)],[],[(3,⟨ajE,fun u2=>Int.toNat u2.2.2.1+1⟩),(8,⟨ajF,fun u7=>Int.toNat u7.2.1+1⟩)],[],[]⟩ (hq x24 (hq XO hz)) aJ Tryz.call58 Tryz.func58
def IQ:Nat→Zp×Int×Int×Zh×Zh×Zg×bL×Zc×Int×Int×Bool×Zd×Unit×Zf×Ze×Zi×ZH→Option (cH Zb (Bool×Zb)):=aK fun anC ⟨c,b,a,e,f,g,h,i,j,k,l,m,n,o,p,q,d⟩=>if(decide (a<b))=true then(if 0≤a then(if a<(c.length:Int) then(if(!(cC bY (nth bY c a) d))=true then none else(anC (c,b,aZ (a+1),e,f,g,h,i,j,k,l,m,n,o,p,q,mZ bY (nth bY c a) d))) else none) else none) else(some (.bA (e,f,g,h,i,j,k,l,m,n,o,p,q)))
def A6(a0:Zp)(a1:Zh)(a2:Zh)(a3:Zg)(a4:bL)(a5:Zc)(a6:Int)(a7:Int)(a8:Bool)(a9:Zd)(a10:Unit)(a11:Zf)(a12:Ze)(a13:Zi):Option (Bool×Zb):=
 Option.bind (lL a1 a2 a3 a4 a5 a6 a7 a8 a9 a10 a11 a12 a13) fun⟨n,a,b,c,d,e,f,g,h,i,j,k,l,m⟩=>Option.bind (po a b c d e f g h i j k l m) fun⟨o,p,q,r,s,t,u,v,w,x,y,z,aa,ab⟩=>Option.bind (MF n o) fun y3=>if(!decide ((a0.length:Int)=(y3.length:Int)))=true then none else(aH (U:=Zb) (IQ (Int.toNat (a0.length:Int)+1) (a0,(a0.length:Int),0,p,q,r,s,t,u,v,w,x,y,z,aa,ab,y3)) fun⟨ac,ad,ae,af,ag,ah,ai,aj,ak,al,am,an,ao⟩=>some (true,ac,ad,ae,af,ag,ah,ai,aj,ak,al,am,an,ao))
def ajH:SS:=⟨37,77,[],I0,[]⟩
def ajI:SS:=⟨37,77,[(5,.mp 30),(20,.val (.slice 32 bY)),tI 21,tI 22],[(0,.var oc (.cons (.own 1) (.cons (.val (.map aF bN)) (.cons (.val (.map aF bN)) (.cons (pP 2) .nil))))),(1,.row 3 8 qr),(2,fB 3 4 5),(3,.map aF dZ),(4,.map aM .bool),(5,.row 110 40 aM),(30,.map bY dX)],[]⟩
def ajJ:SS:=⟨37,77,[(4,vB)],I0,[]⟩
def We:aX:=aE G [.tmp 4] 34 [pP 0,.val (.slice 32 bY)] I0 77 ajJ [0,1,2,3,4,5] (.bH (MO A6))
theorem Fh:hS We:=
 cO ⟨[hE 1 [cB 0 [(0,0),(1,1),(2,2),(3,3),(4,4),(5,5)] [],cB 1 [(0,0),(1,1),(2,2),(3,3),(4,4),(5,5)] [],cB 2 [] [(26,30)]],(3,⟨[],[],[],none,[(0,9999)],[],[]⟩),(9,⟨[],[],[],none,[(0,9999)],[],[]⟩)],[(12,ajH)],[],[(5,⟨ajI,fun u5=>Int.toNat u5.2.1+1⟩)],[],[]⟩ (hq wK (hq AW (hq Wc hz))) aJ Tryz.call34 Tryz.func34
def Wf(a0:cF):Option kR:=
 some (a0.1,a0.2.1,())
def ajK:SS:=⟨8,48,[tP 2 18],[(18,bV bQ)],[]⟩
def c59:aX:=aE G [.cell 2 155] 59 [.val aF] [] 48 ajK [] (.bH (u1 Wf))
theorem x59:hS c59:=
 cO (hR []) hz aJ Tryz.call59 Tryz.func59
def wU:Nat→Zp×Int×Int×Zh×Zh×Zg×bL×Zc×Int×Int×Bool×Zd×Unit×Zf×Ze×Zi×List (kR×Int)×List (kR×Bool)→Option (cH Zb (Bool×Zb)):=aK fun rec7 ⟨v,u,t,x,y,z,aa,ab,ac,ad,ae,af,ag,ah,ai,aj,w,ak⟩=>if(decide (t<u))=true then(if 0≤t then(if t<(v.length:Int) then(aH (U:=Zp×Int×Int×Zh×Zh×Zg×bL×Zc×Int×Int×Bool×Zd×Unit×Zf×Ze×Zi×kR×List (kR×Int)×List (kR×Bool)) (if(decide ((nth bY v t).1=(1:Int)))=true then(if bD bQ ((nth bY v t).2.1,(nth bY v t).2.2.1,()) ((nth bY v t).2.1,(nth bY v t).2.2.1,())=true then(if w.length+1≤aG then(if cC bQ ((nth bY v t).2.1,(nth bY v t).2.2.1,()) (bC bQ ((nth bY v t).2.1,(nth bY v t).2.2.1,()) (aQ bQ qr ((nth bY v t).2.1,(nth bY v t).2.2.1,()) w) w)=true then(sL qr (aQ bQ qr ((nth bY v t).2.1,(nth bY v t).2.2.1,()) w) (aQ bQ qr ((nth bY v t).2.1,(nth bY v t).2.2.1,()) (bC bQ ((nth bY v t).2.1,(nth bY v t).2.2.1,()) (aQ bQ qr ((nth bY v t).2.1,(nth bY v t).2.2.1,()) w) w)) (sL qr (aZ ((aQ bQ qr ((nth bY v t).2.1,(nth bY v t).2.2.1,()) w)+(1:Int))) (aZ ((aQ bQ qr ((nth bY v t).2.1,(nth bY v t).2.2.1,()) w)+(1:Int))) (some (.bA (v,u,t,x,y,z,aa,ab,ac,ad,ae,af,ag,ah,ai,aj,((nth bY v t).2.1,(nth bY v t).2.2.1,()),bC bQ ((nth bY v t).2.1,(nth bY v t).2.2.1,()) (aZ ((aQ bQ qr ((nth bY v t).2.1,(nth bY v t).2.2.1,()) w)+(1:Int))) (bC bQ ((nth bY v t).2.1,(nth bY v t).2.2.1,()) (aQ bQ qr ((nth bY v t).2.1,(nth bY v t).2.2.1,()) w) w),ak))))) else none) else none) else none) else(if bD bQ ((nth bY v t).2.1,(nth bY v t).2.2.1,()) ((nth bY v t).2.1,(nth bY v t).2.2.1,())=true then(if w.length+1≤aG then(if cC bQ ((nth bY v t).2.1,(nth bY v t).2.2.1,()) (bC bQ ((nth bY v t).2.1,(nth bY v t).2.2.1,()) (aQ bQ qr ((nth bY v t).2.1,(nth bY v t).2.2.1,()) w) w)=true then(sL qr (aQ bQ qr ((nth bY v t).2.1,(nth bY v t).2.2.1,()) w) (aQ bQ qr ((nth bY v t).2.1,(nth bY v t).2.2.1,()) (bC bQ ((nth bY v t).2.1,(nth bY v t).2.2.1,()) (aQ bQ qr ((nth bY v t).2.1,(nth bY v t).2.2.1,()) w) w)) (sL qr (aZ ((aQ bQ qr ((nth bY v t).2.1,(nth bY v t).2.2.1,()) w) -(1:Int))) (aZ ((aQ bQ qr ((nth bY v t).2.1,(nth bY v t).2.2.1,()) w) -(1:Int))) (some (.bA (v,u,t,x,y,z,aa,ab,ac,ad,ae,af,ag,ah,ai,aj,((nth bY v t).2.1,(nth bY v t).2.2.1,()),bC bQ ((nth bY v t).2.1,(nth bY v t).2.2.1,()) (aZ ((aQ bQ qr ((nth bY v t).2.1,(nth bY v t).2.2.1,()) w) -(1:Int))) (bC bQ ((nth bY v t).2.1,(nth bY v t).2.2.1,()) (aQ bQ qr ((nth bY v t).2.1,(nth bY v t).2.2.1,()) w) w),ak))))) else none) else none) else none)) fun⟨q,r,s,d,e,f,g,h,i,j,k,l,m,n,o,p,a,c,b⟩=>Option.bind (α:=Bool) (if(aQ bQ .bool a b)=true then(some (decide ((aQ bQ qr a c)<(1:Int)))) else(some false)) fun v9=>if v9=true then(cw (some (false,d,e,f,g,h,i,j,k,l,m,n,o,p))) else(rec7 (q,r,aZ (s+1),d,e,f,g,h,i,j,k,l,m,n,o,p,c,b))) else none) else none) else(some (.bA (x,y,z,aa,ab,ac,ad,ae,af,ag,ah,ai,aj)))
def yC:ZF:=aK fun rec4 ⟨o,p,q,r,s,t,u,v,w,x,y,z,aa,ab,ac,ad,n⟩=>if List.isEmpty n=true then(aH (U:=Zb) (wU (Int.toNat (o.length:Int)+1) (o,(o.length:Int),0,p,q,r,s,t,u,v,w,x,y,z,aa,ab,ac,ad)) fun⟨a,b,c,d,e,f,g,h,i,j,k,l,m⟩=>some (true,a,b,c,d,e,f,g,h,i,j,k,l,m)) else th n fun x10 l11=>Option.bind (Wf x10.1) fun y12=>if(decide ((0:Int)<(aQ bQ qr y12 ac)))=true then(Option.bind (Wf x10.1) fun y13=>if ad.length+1≤aG then(rec4 (o,p,q,r,s,t,u,v,w,x,y,z,aa,ab,ac,bC bQ y13 true ad,l11)) else none) else(rec4 (o,p,q,r,s,t,u,v,w,x,y,z,aa,ab,ac,ad,l11))
def yD:ZF:=aK fun rec2 ⟨c,d,b,e,f,g,h,i,j,k,l,m,n,o,p,q,a⟩=>if List.isEmpty a=true then(yC (List.length (bE b)+1) (c,d,b,e,f,g,h,i,j,k,l,m,n,o,p,q,bE b)) else th a fun x14 l15=>Option.bind (Wf x14.1) fun y16=>if bD bQ y16 (x14.1.1,x14.1.2.1,())=true then(if p.length+1≤aG then(if cC bQ (x14.1.1,x14.1.2.1,()) (bC bQ (x14.1.1,x14.1.2.1,()) (aQ bQ qr (x14.1.1,x14.1.2.1,()) p) p)=true then(sL qr (aQ bQ qr y16 p) (aQ bQ qr y16 (bC bQ (x14.1.1,x14.1.2.1,()) (aQ bQ qr (x14.1.1,x14.1.2.1,()) p) p)) (sL qr (aZ ((aQ bQ qr y16 p)+(1:Int))) (aZ ((aQ bQ qr y16 p)+(1:Int))) (rec2 (c,d,b,e,f,g,h,i,j,k,l,m,n,o,bC bQ (x14.1.1,x14.1.2.1,()) (aZ ((aQ bQ qr y16 p)+(1:Int))) (bC bQ (x14.1.1,x14.1.2.1,()) (aQ bQ qr (x14.1.1,x14.1.2.1,()) p) p),q,l15)))) else none) else none) else none
def Fi(a0:Zp)(a1:Zh)(a2:Zh)(a3:Zg)(a4:bL)(a5:Zc)(a6:Int)(a7:Int)(a8:Bool)(a9:Zd)(a10:Unit)(a11:Zf)(a12:Ze)(a13:Zi):Option (Bool×Zb):=
 yD (List.length (bE a1)+1) (a0,a1,a2,a3,a4,a5,a6,a7,a8,a9,a10,a11,a12,a13,([]:List (kR×Int)),([]:List (kR×Bool)),bE a1)
def ajL:SS:=⟨87,127,[(5,.mp 29),(6,.mp 30),tP 12 28,(51,.val (.slice 32 bY)),tI 52,tI 53],[(0,.var oc (.cons (.own 1) (.cons (.val (.map aF bN)) (.cons (.val (.map aF bN)) (.cons (pP 2) .nil))))),(1,.row 3 8 qr),(2,fB 3 4 5),(3,.map aF dZ),(4,.map aM .bool),(5,.row 110 40 aM),(28,bV bQ),(29,.map bQ qr),(30,.map bQ .bool)],[]⟩
def ajM:SS:=⟨87,127,[],I0,[]⟩
def ajN:SS:=⟨87,127,[tP 0 0,(1,.val (.slice 32 bY)),(5,.mp 29),(6,.mp 30),(7,.func 59 .nil .nil),tP 19 35],[(0,.var oc (.cons (.own 1) (.cons (.val (.map aF bN)) (.cons (.val (.map aF bN)) (.cons (pP 2) .nil))))),(1,.row 3 8 qr),(2,fB 3 4 5),(3,.map aF dZ),(4,.map aM .bool),(5,.row 110 40 aM),(29,.map bQ qr),(30,.map bQ .bool),(35,.ko aF bN)],[]⟩
def ajO:SS:=⟨87,127,[(1,.val (.slice 32 bY)),(5,.mp 29),(6,.mp 30),(7,.func 59 .nil .nil),tP 36 52],[(0,.var oc (.cons (.own 1) (.cons (.val (.map aF bN)) (.cons (.val (.map aF bN)) (.cons (pP 2) .nil))))),(1,.row 3 8 qr),(2,fB 3 4 5),(3,.map aF dZ),(4,.map aM .bool),(5,.row 110 40 aM),(29,.map bQ qr),(30,.map bQ .bool),(52,.ko aF bN)],[]⟩
def ajP:SS:=⟨87,127,[(5,.mp 29),(6,.mp 30),(51,.val (.slice 32 bY)),tI 52,tI 53],[(0,.var oc (.cons (.own 1) (.cons (.val (.map aF bN)) (.cons (.val (.map aF bN)) (.cons (pP 2) .nil))))),(1,.row 3 8 qr),(2,fB 3 4 5),(3,.map aF dZ),(4,.map aM .bool),(5,.row 110 40 aM),(29,.map bQ qr),(30,.map bQ .bool)],[]⟩
def aaq:SS:=⟨87,127,[(4,vB)],I0,[]⟩
def Wg:aX:=aE G [.tmp 4] 35 [pP 0,.val (.slice 32 bY)] I0 127 aaq [0,1,2,3,4,5] (.bH (MO Fi))
theorem Wh:hS Wg:=
 cO ⟨[(6,⟨[],[],[⟨[0],[],[],[],[]⟩],none,[],[.Xz 29 (.two (.c 8 [.cV 0]) (.c 8 [.cV 1]))],[]⟩),hA 10 0,hA 11 0,(17,⟨[],[],[],none,[],[.Xz 29 (.c 12 [])],[]⟩),(18,⟨[],[],[],none,[],[.Xz 29 (.c 12 [])],[]⟩),hD 19 85 []],[(19,ajL),(22,ajM)],[],[(4,⟨ajN,fun u1=>List.length u1.2.2.2.2.2.2.2.2.2.2.2.2.2.2.2.2+1⟩),(8,⟨ajO,fun u3=>List.length u3.2.2.2.2.2.2.2.2.2.2.2.2.2.2.2.2+1⟩),(13,⟨ajP,fun u6=>Int.toNat u6.2.1+1⟩)],[(1000006,6005007),(1000017,4003005),(1000018,4003005)],[]⟩ (hq x59 hz) aJ Tryz.call35 Tryz.func35
end Go.Proofs.YtpmlkhjpbjnagaaGreat
