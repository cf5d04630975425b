/- part -/
import Derived.Test.YtpmlkhjpbjnagaaGreatUL
noncomputable section
namespace Go.Proofs.YtpmlkhjpbjnagaaGreat
open Go.Ax
def zD(a0:Int)(a1:Int)(a2:Int)(a3:bL)(a4:Zc)(a5:Int)(a6:Int)(a7:Bool)(a8:Zd)(a9:Unit)(a10:Zf)(a11:Ze)(a12:Zi):Option (Bool×bL×Zc×Int×Int×Bool×Zd×Unit×Zf×Ze×mi×Zi):=
 aH (U:=Int×Int×Int×bL×Zc×Int×Int×Bool×Zd×Unit×Zf×Ze×Zi×Int×wJ) (if(aQ qr .bool a0 (bE a8))=true then(if(!decide (a2=(0:Int)))=true then(cw (some (false,a3,a4,a5,a6,a7,a8,a9,a10,a11,(0,0,0,([]:Zg),()),a12))) else(Option.bind (um a0 a1 a3 a4 a5 a6 a7 a8 a9 a10 a11 a12) fun⟨a,b,c,d,e,f,g,h,i,j,k⟩=>if(!a)=true then(cw (some (false,b,c,d,e,f,g,h,i,j,(0,0,0,([]:Zg),()),k))) else(some (.bA (a0,a1,a2,b,c,d,e,f,g,h,i,j,k,0,0,0))))) else(some (.bA (a0,a1,a2,a3,a4,a5,a6,a7,a8,a9,a10,a11,a12,0,0,0)))) fun⟨l,m,n,o,p,q,r,s,t,u,v,w,x,_,_,_⟩=>Option.bind (d6 (l,m,n,()) o p q r s t u v w x) fun⟨z,aa,ab,ac,ad,ae,af,ag,ah,y,ai⟩=>some (y.2.2.2.1,z,aa,ab,ac,ad,ae,af,ag,ah,y.1,ai)
def adA:SS:=⟨39,79,[tP 0 0,tI 1,tI 2,tI 3,tP 8 24],[(0,fB 1 2 3),(1,.map aF dZ),(2,.map aM .bool),(3,.row 110 40 aM),(24,.var bN (.cons vI (.cons vI (.cons vI (.cons .bF .nil)))))],[]⟩
def adB:SS:=⟨39,79,[tP 8 24,(9,vB)],[(0,fB 1 2 55),(1,.map aF dZ),(2,.map aM .bool),(24,bV bN),(55,.row 110 40 aM)],[]⟩
def TU:aX:=aE G [.cell 8 50,.tmp 9] 68 [pP 0,vI,vI,vI] Hd 79 adB [0,1,2,55] (.bH (IZ zD))
theorem TV:hS TU:=
 cO ⟨[hE 1 [cB 0 [(0,0),(1,1),(2,2),(3,3)] []],hE 3 [cB 1 [(0,0),(1,1),(2,2),(3,3)] [(93,50)]]],[(3,adA)],[],[],[],[]⟩ (hq I9 (hq Bd hz)) aJ Tryz.call68 Tryz.func68
def iE:Nat→Int×Int×Int×Int×Int×Int×Zw→Option (cH (Int×Int×Int×Zw) (cH Zw (Zm×Zr))):=aK fun rec7 ⟨p,o,ab,ac,n,m,q,r,s,t,u,v,w,x,y,aa,z⟩=>if(decide (m<n))=true then(Option.bind (zD o p m q r s t u v w x y z) fun⟨a,c,d,e,f,g,h,i,j,k,b,l⟩=>if a=true then(if(aa.length+List.length [b])*48≤aG then(rec7 (p,o,ab,ac,n,aZ (m+1),c,d,e,f,g,h,i,j,k,aa++[b],l)) else none) else(rec7 (p,o,ab,ac,n,aZ (m+1),c,d,e,f,g,h,i,j,k,aa,l))) else(some (.bA (p,ab,ac,q,r,s,t,u,v,w,x,y,aa,z)))
def rM:Nat→Int×Int×Int×Zw→Option (cH Zw (Zm×Zr)):=aK fun am3 ⟨ah,af,ae,ai,aj,ak,al,am,ag,an,ao,ap,aq,ar⟩=>if(decide (ae<af))=true then(aH (U:=Int×Int×Int×Zw) (aH (U:=Int×Int×Int×Int×Int×Zw) (if(aQ qr .bool ae (bE ag))=true then(some (.bA (ah,ae,1,af,ae,ai,aj,ak,al,am,ag,an,ao,ap,aq,ar))) else(some (.bA (ah,ae,4,af,ae,ai,aj,ak,al,am,ag,an,ao,ap,aq,ar)))) fun⟨b,c,a,d,e,f,g,h,i,j,k,l,m,n,o,p⟩=>iE (Int.toNat a+1) (b,c,d,e,a,0,f,g,h,i,j,k,l,m,n,o,p)) fun⟨q,r,s,t,u,v,w,x,y,z,aa,ab,ac,ad⟩=>am3 (q,r,aZ (s+1),t,u,v,w,x,y,z,aa,ab,ac,ad)) else(some (.bA (ai,aj,ak,al,am,ag,an,ao,ap,aq,ar)))
def mX(a0:Int)(a1:bL)(a2:Zc)(a3:Int)(a4:Int)(a5:Bool)(a6:Zd)(a7:Unit)(a8:Zf)(a9:Ze)(a10:Zi):Option (Zm×Zr):=
 aH (U:=Zw) (rM (Int.toNat (List.length a1.1.1.2.2.1:Int)+1) (a0,(List.length a1.1.1.2.2.1:Int),0,a1,a2,a3,a4,a5,a6,a7,a8,a9,([]:Zm),a10)) fun⟨b,c,d,e,f,g,h,i,j,a,k⟩=>some (a,b,c,d,e,f,g,h,i,j,k)
def XN:List (Nat×dj):=[(0,fB 1 2 68),(1,.map aF dZ),(2,.map aM .bool),(67,.row 50 48 bN),(68,.row 110 40 aM)]
def adC:SS:=⟨47,87,[tP 0 0,tI 1,(4,.own 67),tI 5,tI 6,tI 17,tI 18],XN,[]⟩
def adD:SS:=⟨47,87,[tP 0 0,tI 1,(4,.own 65),tI 17,tI 18],[(0,fB 1 2 66),(1,.map aF dZ),(2,.map aM .bool),(65,.row 50 48 bN),(66,.row 110 40 aM)],[]⟩
def adE:SS:=⟨47,87,[(4,.own 69)],[(0,fB 1 2 70),(1,.map aF dZ),(2,.map aM .bool),(69,.row 50 48 bN),(70,.row 110 40 aM)],[]⟩
def adF:SS:=⟨47,87,[tP 0 0,tI 1,(4,.own 67),tI 17,tI 18],XN,[]⟩
def adG:SS:=⟨47,87,[tP 0 0,tI 1,(4,.own 63),tI 5,tI 17,tI 18,tI 27,tI 28],[(0,fB 1 2 64),(1,.map aF dZ),(2,.map aM .bool),(63,.row 50 48 bN),(64,.row 110 40 aM)],[]⟩
def adH:SS:=⟨47,87,[(4,.val (.slice 48 bN))],[(0,fB 1 2 70),(1,.map aF dZ),(2,.map aM .bool),(70,.row 110 40 aM)],[]⟩
def TW:aX:=aE G [.tmp 4] 45 [pP 0,vI] Hd 87 adH [0,1,2,70] (.bH (LO mX))
theorem Lj:hS TW:=
 cO ⟨[hE 10 [cB 0 [(0,0),(1,1),(2,2),(3,64)] [(55,52)]]],[(7,adC),(14,adD),(15,adE)],[],[(2,⟨adF,fun u2=>Int.toNat u2.2.1+1⟩),(8,⟨adG,fun u6=>Int.toNat u6.2.2.2.2.1+1⟩)],[],[]⟩ (hq TV hz) aJ Tryz.call45 Tryz.func45
def MM(a0:mi):Option cF:=
 some (a0.1,a0.2.1,a0.2.2.1,())
def adI:SS:=⟨10,50,[tP 2 18],[(18,bV aF)],[]⟩
def c52:aX:=aE G [.cell 2 88] 52 [.val bN] [] 50 adI [] (.bH (u1 MM))
theorem XO:hS c52:=
 cO (hR []) hz aJ Tryz.call52 Tryz.func52
def rN:Nat→Zg×Int×Int×Zm×Int×Int×ZJ→Option (cH (Zg×Int×Int×ZJ) (cH ZJ ZaI)):=aK fun rec7 ⟨e,f,g,c,b,a,h,i,j,k,l,m,n,o,p,q,d,r⟩=>if(decide (a<b))=true then(if 0≤a then(if a<(c.length:Int) then(Option.bind (MM (nth bN c a)) fun y8=>if d.length+1≤aG then(rec7 (e,f,g,c,b,aZ (a+1),h,i,j,k,l,m,n,o,p,q,bC aF y8 (nth bN c a) d,r)) else none) else none) else none) else(some (.bA (e,f,g,h,i,j,k,l,m,n,o,p,q,d,r)))
def yq:Nat→Zg×Int×Int×ZJ→Option (cH ZJ ZaI):=aK fun am3 ⟨ac,ab,aa,ad,ae,af,ag,ah,ai,aj,an,ak,al,ao,am⟩=>if(decide (aa<ab))=true then(aH (U:=Zg×Int×Int×ZJ) (if 0≤aa then(if aa<(ac.length:Int) then(Option.bind (mX (nth qr ac aa) ad ae af ag ah ai aj ak al am) fun⟨a,b,c,d,e,f,g,h,i,j,k⟩=>rN (Int.toNat (a.length:Int)+1) (ac,ab,aa,a,(a.length:Int),0,b,c,d,e,f,g,h,an,i,j,ao,k)) else none) else none) fun⟨l,m,n,o,p,q,r,s,t,u,v,w,x,y,z⟩=>am3 (l,m,aZ (n+1),o,p,q,r,s,t,u,v,w,x,y,z)) else(some (.bA (ad,ae,af,ag,ah,ai,aj,an,ak,al,ao,am)))
def rO(a0:bL)(a1:Zc)(a2:Int)(a3:Int)(a4:Bool)(a5:Zd)(a6:Unit)(a7:Zg)(a8:Zf)(a9:Ze)(a10:Zi):Option ZaI:=
 aH (U:=ZJ) (yq (Int.toNat (a7.length:Int)+1) (a7,(a7.length:Int),0,a0,a1,a2,a3,a4,a5,a6,a7,a8,a9,([]:List (cF×mi)),a10)) fun⟨b,c,d,e,f,g,h,i,j,k,a,l⟩=>some (some a,b,c,d,e,f,g,h,i,j,k,l)
def XP:List (Nat×dj):=[(0,fB 2 3 34),(1,.var (.slice 8 qr) (.val (.slice 8 qr))),(2,.map aF dZ),(3,.map aM .bool),(25,.map aF bN),(34,.row 110 40 aM)]
def adJ:SS:=⟨31,71,[tP 0 0,(4,.mp 25),(10,.val (.slice 8 qr)),tI 11,tI 12],XP,[]⟩
def adK:SS:=⟨31,71,[(4,.mp 25)],[(0,fB 2 3 48),(1,.var (.slice 8 qr) (.val (.slice 8 qr))),(2,.map aF dZ),(3,.map aM .bool),(25,.map aF bN),(48,.row 110 40 aM)],[]⟩
def adL:SS:=⟨31,71,[tP 0 0,(4,.mp 25),(10,.val (.slice 8 qr)),tI 11,tI 12],[(0,fB 2 3 47),(1,.var (.slice 8 qr) (.val (.slice 8 qr))),(2,.map aF dZ),(3,.map aM .bool),(25,.map aF bN),(47,.row 110 40 aM)],[]⟩
def adM:SS:=⟨31,71,[tP 0 0,(4,.mp 25),(10,.val (.slice 8 qr)),tI 11,tI 12,(18,.val (.slice 48 bN)),tI 19,tI 20],XP,[]⟩
def adN:SS:=⟨31,71,[(3,.val (.map aF bN))],[(0,fB 2 3 48),(1,.var (.slice 8 qr) (.val (.slice 8 qr))),(2,.map aF dZ),(3,.map aM .bool),(48,.row 110 40 aM)],[]⟩
def TX:aX:=aE G [.tmp 3] 51 [pP 0,pP 1] [(0,fB 2 3 4),(1,.var (.slice 8 qr) (.val (.slice 8 qr))),(2,.map aF dZ),(3,.map aM .bool),(4,.row 110 40 aM)] 71 adN [0,1,2,3,48] (.bH (LO rO))
theorem TY:hS TX:=
 cO ⟨[hE 5 [cB 0 [(0,0),(1,2),(2,3),(3,47)] [(70,34)]],hA 8 1],[(10,adJ),(11,adK)],[],[(3,⟨adL,fun u2=>Int.toNat u2.2.1+1⟩),(6,⟨adM,fun u6=>Int.toNat u6.2.2.2.2.1+1⟩)],[],[]⟩ (hq Lj (hq XO hz)) aJ Tryz.call51 Tryz.func51
def rP:Nat→Int×Int×Zg×Int×Int×Zg×Zg×Zr→Option (cH (Int×Int×Zg×Zg×Zr) (Bool×Zg×bL×Zc×Int×Int×Bool×Zd×Unit×Zh×Zh×Zi×Zf×Ze)):=aK fun anz ⟨e,f,c,b,a,g,d,h,i,j,k,l,m,n,o,p,q⟩=>if(decide (a<b))=true then(if 0≤a then(if a<(c.length:Int) then(if 0≤(nth qr c a) then(if(nth qr c a)<(d.length:Int) then(anz (e,f,c,b,aZ (a+1),g,List.set d (Int.toNat (nth qr c a)) a,h,i,j,k,l,m,n,o,p,q)) else none) else none) else none) else none) else(some (.bA (e,f,g,d,h,i,j,k,l,m,n,o,p,q)))
def iF(a0:bL)(a1:Zg)(a2:Int)(a3:Int)(a4:Int):Option (Bool×Zg×bL×Zc×Int×Int×Bool×Zd×Unit×Zh×Zh×Zi×Zf×Ze):=
 Option.bind (Wi a0.1 a1 a2) fun y1=>if(!y1)=true then none else(if 0≤(List.length a0.1.2.1:Int) then(if(List.length a0.1.2.1:Int)≤(List.length a0.1.2.1:Int) then(if(List.length a0.1.2.1:Int)*(8:Int)≤(aG:Int) then(Option.bind (qT a0 a2 a4 true) fun⟨a,b,c,d,e,f,g,h,i,j⟩=>aH (U:=Int×Int×Zg×Zg×Zr) (rP (Int.toNat (List.length a0.1.2.1:Int)+1) (a2,a3,a0.1.2.1,(List.length a0.1.2.1:Int),0,a1,List.replicate (Int.toNat (List.length a0.1.2.1:Int)) (0:Int),a,b,c,d,e,f,g,h,i,j)) fun⟨k,l,w,x,m,n,o,p,q,r,s,t,u,v⟩=>Option.bind (C4 k l m n o p q r s t u v) fun⟨ai,aj,ak,al,am,an,ao,ap,aq,ar,y,z,aa,ab,ac,ad,ae,af,ag,ah⟩=>Option.bind (rO y z aa ab ac ad ae w af ag ah) fun⟨av,_,_,_,_,_,_,_,au,_,_,_⟩=>Option.bind (rO ai aj ak al am an ao au ap aq ar) fun⟨a8,aw,ax,ay,az,a5,a6,a7,_,ba,bb,a9⟩=>some (true,x,aw,ax,ay,az,a5,a6,a7,av,a8,a9,ba,bb)) else none) else none) else none)
def XQ:List (Nat×dj):=[(22,.var (.slice 8 qr) (.val (.slice 8 qr))),(41,.row 3 8 qr),(45,fB 88 89 90),(47,.var oc (.cons (.own 41) (.cons .eA (.cons .eA (.cons (pP 45) .nil))))),(88,.map aF dZ),(89,.map aM .bool),(90,.row 110 40 aM)]
def adO:SS:=⟨72,112,[tI 2,tI 3,tP 6 22,tP 10 47],XQ,[]⟩
def adP:SS:=⟨72,112,[tI 2,tI 3,tP 6 22,tP 10 47,(34,.val (.slice 8 qr)),tI 35,tI 36],XQ,[]⟩
def adQ:SS:=⟨72,112,[tP 10 47,(11,vB)],[(41,.row 3 8 qr),(45,fB 88 89 82),(47,.var oc (.cons (.own 41) (.cons (.val (.map aF bN)) (.cons (.val (.map aF bN)) (.cons (pP 45) .nil))))),(82,.row 110 40 aM),(88,.map aF dZ),(89,.map aM .bool)],[]⟩
def TZ:aX:=aE G [.tmp 10,.tmp 11] 22 [.val fX,.val (.slice 8 qr),vI,vI,vI] [] 112 adQ [41,45,47,82,88,89] (.bH (u5 iF))
theorem o9:hS TZ:=
 cO ⟨[hA 1 0,(2,⟨[],[],[],none,[(0,9999)],[],[]⟩),hE 3 [cB 1 [] [(75,45),(76,88),(77,89),(78,90)]],hE 10 [cB 2 [(0,45),(1,88),(2,89),(3,90)] [(23,75),(32,91),(33,92),(36,93)],cB 3 [(0,75),(1,22),(2,91),(3,92),(4,93)] [(48,76)],cB 3 [(0,45),(1,22),(2,88),(3,89),(4,90)] [(48,82)]]],[(9,adO)],[],[(5,⟨adP,fun u4=>Int.toNat u4.2.2.2.1+1⟩)],[],[]⟩ (hq x50 (hq I8 (hq SL (hq TY hz)))) aJ Tryz.call22 Tryz.func22
def f85(a0:Int):ZW:=
 aH (U:=wJ) (if(decide ((4294967296:Int)≤a0))=true then(some (.bA (Int.fdiv a0 (2^(min (Int.toNat (32:Int)) 64)),32))) else(some (.bA (a0,0)))) fun⟨a,b⟩=>aH (U:=wJ) (if(decide ((65536:Int)≤a))=true then(some (.bA (Int.fdiv a (2^(min (Int.toNat (16:Int)) 64)),aZ (b+(16:Int))))) else(some (.bA (a,b)))) fun⟨c,d⟩=>aH (U:=wJ) (if(decide ((256:Int)≤c))=true then(some (.bA (Int.fdiv c (2^(min (Int.toNat (8:Int)) 64)),aZ (d+(8:Int))))) else(some (.bA (c,d)))) fun⟨e,f⟩=>if 0≤(IntKind.u8.wrap (e)) then(if(IntKind.u8.wrap (e))<(List.length [0,1,2,2,3,3,3,3,4,4,4,4,4,4,4,4,5,5,5,5,5,5,5,5,5,5,5,5,5,5,5,5,6,6,6,6,6,6,6,6,6,6,6,6,6,6,6,6,6,6,6,6,6,6,6,6,6,6,6,6,6,6,6,6,7,7,7,7,7,7,7,7,7,7,7,7,7,7,7,7,7,7,7,7,7,7,7,7,7,7,7,7,7,7,7,7,7,7,7,7,7,7,7,7,7,7,7,7,7,7,7,7,7,7,7,7,7,7,7,7,7,7,7,7,7,7,7,7,8,8,8,8,8,8,8,8,8,8,8,8,8,8,8,8,8,8,8,8,8,8,8,8,8,8,8,8,8,8,8,8,8,8,8,8,8,8,8,8,8,8,8,8,8,8,8,8,8,8,8,8,8,8,8,8,8,8,8,8,8,8,8,8,8,8,8,8,8,8,8,8,8,8,8,8,8,8,8,8,8,8,8,8,8,8,8,8,8,8,8,8,8,8,8,8,8,8,8,8,8,8,8,8,8,8,8,8,8,8,8,8,8,8,8,8,8,8,8,8,8,8,8,8,8,8,8,8]:Int) then(some (aZ (f+(aZ (Oo [0,1,2,2,3,3,3,3,4,4,4,4,4,4,4,4,5,5,5,5,5,5,5,5,5,5,5,5,5,5,5,5,6,6,6,6,6,6,6,6,6,6,6,6,6,6,6,6,6,6,6,6,6,6,6,6,6,6,6,6,6,6,6,6,7,7,7,7,7,7,7,7,7,7,7,7,7,7,7,7,7,7,7,7,7,7,7,7,7,7,7,7,7,7,7,7,7,7,7,7,7,7,7,7,7,7,7,7,7,7,7,7,7,7,7,7,7,7,7,7,7,7,7,7,7,7,7,7,8,8,8,8,8,8,8,8,8,8,8,8,8,8,8,8,8,8,8,8,8,8,8,8,8,8,8,8,8,8,8,8,8,8,8,8,8,8,8,8,8,8,8,8,8,8,8,8,8,8,8,8,8,8,8,8,8,8,8,8,8,8,8,8,8,8,8,8,8,8,8,8,8,8,8,8,8,8,8,8,8,8,8,8,8,8,8,8,8,8,8,8,8,8,8,8,8,8,8,8,8,8,8,8,8,8,8,8,8,8,8,8,8,8,8,8,8,8,8,8,8,8,8,8,8,8,8,8] (IntKind.u8.wrap (e))))))) else none) else none
def T0:SS:=⟨25,65,[(0,.val (.int .u64)),tI 2],[],[]⟩
def adR:SS:=⟨25,65,[tI 2],[],[]⟩
def c85:aX:=aE G [.tmp 2] 85 [.val (.int .u64)] [] 65 adR [] (.bH (u1 f85))
theorem x85:hS c85:=
 cO ⟨[],[(4,T0),(7,T0),(10,T0)],[],[],[],[]⟩ hz aJ Tryz.call85 Tryz.func85
def f56(a0:Int):ZW:=
 Option.bind (f85 a0) fun y1=>some y1
def adS:SS:=⟨8,48,[tI 2],[],[]⟩
def c56:aX:=aE G [.tmp 2] 56 [.val (.int .u64)] [] 48 adS [] (.bH (u1 f56))
theorem x56:hS c56:=
 cO (hR [hA 2 0]) (hq x85 hz) aJ Tryz.call56 Tryz.func56
def f41(a0:cF)(a1:cF):ZW:=
 Option.bind (Jc a0.1 a1.1) fun y1=>Option.bind (Jc a0.2.1 a1.2.1) fun y2=>Option.bind (Jc a0.2.2.1 a1.2.2.1) fun y3=>Option.bind (SY [y1,y2,y3]) fun y4=>some y4
def adV:SS:=⟨22,62,[tI 4],[],[]⟩
def c41:aX:=aE G [.tmp 4] 41 [.val aF,.val aF] [] 62 adV [] (.bH (u2 f41))
theorem x41:hS c41:=
 cO (hR [hE 1 [cA 0,cA 0,cA 0,cA 1]]) (hq x30 (hq x29 hz)) aJ Tryz.call41 Tryz.func41
def f75(a0:mi)(a1:mi):ZW:=
 Option.bind (MM a0) fun y1=>Option.bind (MM a1) fun y2=>Option.bind (f41 y1 y2) fun y3=>some y3
def adW:SS:=⟨10,50,[tI 4],[],[]⟩
def c75:aX:=aE G [.tmp 4] 75 [.val bN,.val bN] [] 50 adW [] (.bH (u2 f75))
theorem x75:hS c75:=
 cO (hR [hE 1 [cA 0,cA 0,cA 1]]) (hq XO (hq x41 hz)) aJ Tryz.call75 Tryz.func75
def Gt:SS:=⟨148,188,[],[(0,.row 50 48 bN)],[]⟩
def Gu(q:Wv):aX:=aE G [] 109 [.own 0,vI,vI,vI,.func 75 .nil .nil] [(0,.row 50 48 bN)] 188 Gt [0] (.bH q)
def Ef:Nat→Int×Int×Int×Int×Zm→Option (cH (Int×Int×Int×Zm) (cH Zm Zm)):=aK fun anC ⟨f,i,j,g,h⟩=>aH (U:=Int×Int×Int×Int×Zm) (Option.bind (α:=Bool) (if(decide (f<g))=true then(if 0≤g then(if g<(h.length:Int) then(if 0≤(aZ (g -(1:Int))) then(if(aZ (g -(1:Int)))<(h.length:Int) then(Option.bind (f75 (nth bN h g) (nth bN h (aZ (g -(1:Int))))) fun y8=>some (decide (y8<(0:Int)))) else none) else none) else none) else none) else(some false)) fun v9=>if v9=true then(some (.bA (f,i,j,g,h))) else(cw (some (.bA (f,i,j,h))))) fun⟨c,d,e,a,b⟩=>if 0≤(aZ (a -(1:Int))) then(if(aZ (a -(1:Int)))<(b.length:Int) then(if 0≤a then(if a<(b.length:Int) then(if 0≤a then(if a<(b.length:Int) then(if 0≤(aZ (a -(1:Int))) then(if(aZ (a -(1:Int)))<(List.length (List.set b (Int.toNat a) (nth bN b (aZ (a -(1:Int))))):Int) then(anC (c,d,e,aZ (a -(1:Int)),List.set (List.set b (Int.toNat a) (nth bN b (aZ (a -(1:Int))))) (Int.toNat (aZ (a -(1:Int)))) (nth bN b a))) else none) else none) else none) else none) else none) else none) else none) else none
def Eg:Nat→Int×Int×Int×Zm→Option (cH Zm Zm):=aK fun am3 ⟨g,f,e,h⟩=>if(decide (e<f))=true then(aH (U:=Int×Int×Int×Zm) (Ef eP (g,f,e,e,h)) fun⟨a,b,c,d⟩=>am3 (a,b,aZ (c+1),d)) else(some (.bA h))
def Gv(a0:Int)(a1:Int)(a2:Zm):ZV:=
 aH (U:=Zm) (Eg eP (a0,a1,aZ (a0+1),a2)) fun v1=>some v1
def XR:SS:=⟨53,93,[(0,.own 0),tI 1,tI 2,(3,.func 75 .nil .nil),tI 8],[(0,.row 50 48 bN)],[]⟩
def XS:SS:=⟨53,93,[(0,.own 0),tI 1,tI 2,(3,.func 75 .nil .nil),tI 8,tI 9],[(0,.row 50 48 bN)],[]⟩
def XT:SS:=⟨53,93,[],[(0,.row 50 48 bN)],[]⟩
def OB:aX:=aE G [] 155 [.own 0,vI,vI,.func 75 .nil .nil] [(0,.row 50 48 bN)] 93 XT [0] (.bH (u3 Gv))
theorem OC:hS OB:=
 cO ⟨[hD 4 34 [cA 0]],[(2,XR),(6,XS)],[(0,XT)],[(1,⟨XR,fun _=>eP⟩),(4,⟨XS,fun _=>eP⟩)],[],[]⟩ (hq x75 hz) aJ Tryz.call155 Tryz.func155
def Eh(_q0_:Wv):Nat→Int×Int×Int×Bool×Bool×Zm→ZV:=aK fun _rec2 ⟨b,a,_,_,_,c⟩=>if(decide ((aZ (a -b))≤(12:Int)))=true then(Option.bind (Gv b a c) fun y3=>some y3) else none
def Gw(q0_:Wv)(a0:Int)(a1:Int)(a2:Int)(a3:Zm):ZV:=
 Eh q0_ eP (a0,a1,a2,true,true,a3)
def adX:SS:=⟨148,188,[(0,.own 0),tI 1,tI 2,tI 3,(4,.func 75 .nil .nil),(10,vB),(11,vB)],[(0,.row 50 48 bN)],[]⟩
def adY:SS:=⟨148,188,[],[(0,.row 50 48 bN)],[]⟩
def OD(q0_:Wv):aX:=aE G [] 109 [.own 0,vI,vI,vI,.func 75 .nil .nil] [(0,.row 50 48 bN)] 188 adY [0] (.bH (u4 (Gw q0_)))
theorem OE(q0_:Wv)(_h0_:hS (Gu q0_)):hS (OD q0_):=
 cO ⟨[hE 4 [cB 0 [(0,0)] []],(5,⟨[],[],[],none,[(0,9999)],[],[]⟩)],[],[],[(2,⟨adX,fun _=>eP⟩)],[],[]⟩ (hq OC hz) aJ Tryz.call109 Tryz.func109
def Gx:Nat→Wv:=@Nat.rec (fun _=>(Int×Int×Int×(Zm)×Unit→ZV)) (fun _=>none) (fun _ ih=>(fun d=>Gw (ih) d.1 d.2.1 d.2.2.1 d.2.2.2.1))
theorem Ei(n:Nat):hS (Gu (Gx n)):=by
 induction n with
 |zero=>exact aX.J0
 |succ n ih=>exact OE _ ih
def Cp(a0:Int)(a1:Int)(a2:Int)(a3:Zm):ZV:=(Gx eP) (a0,a1,a2,a3,())
def Lk:aX:=aE G [] 109 [.own 0,vI,vI,vI,.func 75 .nil .nil] [(0,.row 50 48 bN)] 188 Gt [0] (.bH (u4 Cp))
theorem Ll:hS Lk:=(Ei eP)
def zE(a0:Zm):ZV:=
 Option.bind (f56 (IntKind.u64.wrap ((a0.length:Int)))) fun y1=>Option.bind (Cp (0:Int) (a0.length:Int) y1 a0) fun y2=>some y2
def adZ:SS:=⟨14,54,[],[(0,.row 50 48 bN)],[]⟩
def T1:aX:=aE G [] 74 [.own 0,.func 75 .nil .nil] [(0,.row 50 48 bN)] 54 adZ [0] (.bH (u1 zE))
theorem T3:hS T1:=
 cO (hR [hE 1 [cA 0,cB 1 [(0,0)] []]]) (hq x56 (hq Ll hz)) aJ Tryz.call74 Tryz.func74
def Lm:Nat→Zh×List (cF×mi)×Zm→ZV:=aK fun rec2 ⟨c,a,b⟩=>if List.isEmpty a=true then(Option.bind (zE b) fun y3=>some y3) else th a fun x4 l5=>Option.bind (α:=Bool) (if(!(cC aF x4.1 (bE c)))=true then(some true) else(Option.bind (MH x4.2.2.2.2.1 (aQ aF bN x4.1 (bE c)).2.2.2.1) fun y6=>some (!y6))) fun v7=>if v7=true then(if(b.length+List.length [x4.2])*48≤aG then(rec2 (c,l5,b++[x4.2])) else none) else(rec2 (c,l5,b))
def f54(a0:Zh)(a1:Zh):ZV:=
 Lm (List.length (bE a0)+1) (a1,bE a0,([]:Zm))
def ad1:SS:=⟨39,79,[(1,.val (.map aF bN)),(4,.own 56),tP 10 26],[(26,.ko aF bN),(56,.row 50 48 bN)],[]⟩
def XU:SS:=⟨39,79,[(4,.val (.slice 48 bN))],[],[]⟩
def c54:aX:=aE G [.tmp 4] 54 [.val (.map aF bN),.val (.map aF bN)] [] 79 XU [] (.bH (u2 f54))
theorem x54:hS c54:=
 cO ⟨[(1,⟨[.xb 4 55 50 48 bN],[],[],none,[],[],[]⟩),hD 5 31 [cA 1],hE 7 [cB 0 [(0,56)] []]],[],[],[(2,⟨ad1,fun u1=>List.length u1.2.1+1⟩)],[],[]⟩ (hq T3 (hq x73 hz)) aJ Tryz.call54 Tryz.func54
end Go.Proofs.YtpmlkhjpbjnagaaGreat
