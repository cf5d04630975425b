/- part -/
import Derived.Test.YtpmlkhjpbjnagaaGreatUW
noncomputable section
namespace Go.Proofs.YtpmlkhjpbjnagaaGreat
open Go.Ax
def po(a0:Zh)(a1:Zh)(a2:Zg)(a3:bL)(a4:Zc)(a5:Int)(a6:Int)(a7:Bool)(a8:Zd)(a9:Unit)(a10:Zf)(a11:Ze)(a12:Zi):Option (Zm×Zb):=
 Option.bind (HY a1 a0) fun y1=>some (y1,a0,a1,a2,a3,a4,a5,a6,a7,a8,a9,a10,a11,a12)
def I0:List (Nat×dj):=[(0,.var oc (.cons (.own 1) (.cons (.val (.map aF bN)) (.cons (.val (.map aF bN)) (.cons (pP 2) .nil))))),(1,.row 3 8 qr),(2,fB 3 4 5),(3,.map aF dZ),(4,.map aM .bool),(5,.row 110 40 aM)]
def aiE:SS:=⟨12,52,[(2,.val (.slice 48 bN))],I0,[]⟩
def L9:aX:=aE G [.tmp 2] 23 [pP 0] I0 52 aiE [0,1,2,3,4,5] (.bH (IZ po))
theorem AW:hS L9:=
 cO (hR [hA 1 0]) (hq XV hz) aJ Tryz.call23 Tryz.func23
def U6(a0:Int)(a1:mi):Option Wt:=
 some (a0,a1.1,a1.2.1,a1.2.2.1,())
def aiF:SS:=⟨13,53,[tP 4 20],[(20,bV bY)],[]⟩
def c24:aX:=aE G [.cell 4 44] 24 [vI,.val bN] [] 53 aiF [] (.bH (u2 U6))
theorem x24:hS c24:=
 cO (hR []) hz aJ Tryz.call24 Tryz.func24
def lL(a0:Zh)(a1:Zh)(a2:Zg)(a3:bL)(a4:Zc)(a5:Int)(a6:Int)(a7:Bool)(a8:Zd)(a9:Unit)(a10:Zf)(a11:Ze)(a12:Zi):Option (Zm×Zb):=
 Option.bind (HY a0 a1) fun y1=>some (y1,a0,a1,a2,a3,a4,a5,a6,a7,a8,a9,a10,a11,a12)
def aiH:SS:=⟨12,52,[(2,.val (.slice 48 bN))],I0,[]⟩
def Ma:aX:=aE G [.tmp 2] 25 [pP 0] I0 52 aiH [0,1,2,3,4,5] (.bH (IZ lL))
theorem wK:hS Ma:=
 cO (hR [hA 1 0]) (hq XV hz) aJ Tryz.call25 Tryz.func25
def I1:List (Nat×dj):=[(0,.row 44 32 bY),(1,bI),(2,.var (.aS .ptr) (pP 3)),(3,.var oc (.cons (.own 4) (.cons (.val (.map aF bN)) (.cons (.val (.map aF bN)) (.cons (pP 5) .nil))))),(4,.row 3 8 qr),(5,fB 6 7 8),(6,.map aF dZ),(7,.map aM .bool),(8,.row 110 40 aM)]
def Mb:SS:=⟨148,188,[],I1,[]⟩
def Mc(q:ZA):aX:=aE G [] 55 [.own 0,vI,vI,vI,.func 28 .nil (.cons (pP 1) (.cons (pP 2) .nil))] I1 188 Mb [0,1,2,3,4,5,6,7,8] (.bH q)
def Md(a0:Wt)(a1:Wt)(a2:Int)(a3:Zh)(a4:Zh)(a5:Zg)(a6:bL)(a7:Zc)(a8:Int)(a9:Int)(a10:Bool)(a11:Zd)(a12:Unit)(a13:Zf)(a14:Ze)(a15:Zi):Option (Int×Int×Zb):=
 if 0≤a0.2.1 then(if a0.2.1<(a5.length:Int) then(if 0≤a1.2.1 then(if a1.2.1<(a5.length:Int) then(Option.bind (Jc (nth qr a5 a0.2.1) (nth qr a5 a1.2.1)) fun y1=>Option.bind (Jc a0.2.2.1 a1.2.2.1) fun y2=>Option.bind (Jc a0.2.2.2.1 a1.2.2.2.1) fun y3=>Option.bind (SY [aZ (a2*y1),y2,y3]) fun y4=>some (y4,a2,a3,a4,a5,a6,a7,a8,a9,a10,a11,a12,a13,a14,a15)) else none) else none) else none) else none
def Y4:List (Nat×dj):=[(0,bI),(1,.var (.aS .ptr) (pP 2)),(2,.var oc (.cons (.own 3) (.cons (.val (.map aF bN)) (.cons (.val (.map aF bN)) (.cons (pP 4) .nil))))),(3,.row 3 8 qr),(4,fB 5 6 7),(5,.map aF dZ),(6,.map aM .bool),(7,.row 110 40 aM)]
def aiI:SS:=⟨38,78,[tI 6],Y4,[]⟩
def U7:aX:=aE G [.tmp 6] 28 [.val bY,.val bY,pP 0,pP 1] Y4 78 aiI [0,1,2,3,4,5,6,7] (.bH (u16 Md))
theorem U8:hS U7:=
 cO (hR [hE 1 [cA 0,cA 0,cA 0,cA 1]]) (hq x30 (hq x29 hz)) aJ Tryz.call28 Tryz.func28
def Il:Nat→Int×Int×Int×Int×Bb→Option (cH (Int×Int×Int×Bb) (cH Bb Bb)):=aK fun anC ⟨ai,a1,a2,aj,ak,al,am,an,ao,ap,aq,ar,au,av,aw,ax,ay,az,a0⟩=>aH (U:=Int×Int×Int×Int×Bb) (if(decide (ai<aj))=true then(if 0≤aj then(if aj<(ak.length:Int) then(if 0≤(aZ (aj -(1:Int))) then(if(aZ (aj -(1:Int)))<(ak.length:Int) then(Option.bind (Md (nth bY ak aj) (nth bY ak (aZ (aj -(1:Int)))) al am an ao ap aq ar au av aw ax ay az a0) fun⟨a,b,c,d,e,f,g,h,i,j,k,l,m,n,o⟩=>if(decide (a<(0:Int)))=true then(some (.bA (ai,a1,a2,aj,ak,b,c,d,e,f,g,h,i,j,k,l,m,n,o))) else(cw (some (.bA (ai,a1,a2,ak,b,c,d,e,f,g,h,i,j,k,l,m,n,o))))) else none) else none) else none) else none) else(cw (some (.bA (ai,a1,a2,ak,al,am,an,ao,ap,aq,ar,au,av,aw,ax,ay,az,a0))))) fun⟨r,s,t,p,q,u,v,w,x,y,z,aa,ab,ac,ad,ae,af,ag,ah⟩=>if 0≤(aZ (p -(1:Int))) then(if(aZ (p -(1:Int)))<(q.length:Int) then(if 0≤p then(if p<(q.length:Int) then(if 0≤p then(if p<(q.length:Int) then(if 0≤(aZ (p -(1:Int))) then(if(aZ (p -(1:Int)))<(List.length (List.set q (Int.toNat p) (nth bY q (aZ (p -(1:Int))))):Int) then(anC (r,s,t,aZ (p -(1:Int)),List.set (List.set q (Int.toNat p) (nth bY q (aZ (p -(1:Int))))) (Int.toNat (aZ (p -(1:Int)))) (nth bY q p),u,v,w,x,y,z,aa,ab,ac,ad,ae,af,ag,ah)) else none) else none) else none) else none) else none) else none) else none) else none
def Im:Nat→Int×Int×Int×Bb→Option (cH Bb Bb):=aK fun am3 ⟨u,t,s,v,w,x,y,z,aa,ab,ac,ad,ae,af,ag,ah,ai,aj⟩=>if(decide (s<t))=true then(aH (U:=Int×Int×Int×Bb) (Il eP (u,t,s,s,v,w,x,y,z,aa,ab,ac,ad,ae,af,ag,ah,ai,aj)) fun⟨a,b,c,d,e,f,g,h,i,j,k,l,m,n,o,p,q,r⟩=>am3 (a,b,aZ (c+1),d,e,f,g,h,i,j,k,l,m,n,o,p,q,r)) else(some (.bA (v,w,x,y,z,aa,ab,ac,ad,ae,af,ag,ah,ai,aj)))
def Me(a0:Int)(a1:Int)(a2:Zp)(a3:Int)(a4:Zh)(a5:Zh)(a6:Zg)(a7:bL)(a8:Zc)(a9:Int)(a10:Int)(a11:Bool)(a12:Zd)(a13:Unit)(a14:Zf)(a15:Ze)(a16:Zi):Option Bb:=
 aH (U:=Bb) (Im eP (a0,a1,aZ (a0+1),a2,a3,a4,a5,a6,a7,a8,a9,a10,a11,a12,a13,a14,a15,a16)) fun⟨a,b,c,d,e,f,g,h,i,j,k,l,m,n,o⟩=>some (a,b,c,d,e,f,g,h,i,j,k,l,m,n,o)
def Y5:SS:=⟨53,93,[(0,.own 0),tI 1,tI 2,(3,.func 28 .nil (.cons (pP 1) (.cons (pP 2) .nil))),tI 8],I1,[]⟩
def Y6:SS:=⟨53,93,[(0,.own 0),tI 1,tI 2,(3,.func 28 .nil (.cons (pP 1) (.cons (pP 2) .nil))),tI 8,tI 9],I1,[]⟩
def Y7:SS:=⟨53,93,[],I1,[]⟩
def U9:aX:=aE G [] 76 [.own 0,vI,vI,.func 28 .nil (.cons (pP 1) (.cons (pP 2) .nil))] I1 93 Y7 [0,1,2,3,4,5,6,7,8] (.bH (u17 Me))
theorem Va:hS U9:=
 cO ⟨[hE 4 [cB 0 [(0,1),(1,2),(2,3),(3,4),(4,5),(5,6),(6,7),(7,8)] []]],[(2,Y5),(6,Y6)],[(0,Y7)],[(1,⟨Y5,fun _=>eP⟩),(4,⟨Y6,fun _=>eP⟩)],[],[]⟩ (hq U8 hz) aJ Tryz.call76 Tryz.func76
def Io(_q0_:ZA):Nat→Int×Int×Int×Bool×Bool×Bb→Option Bb:=aK fun _rec2 ⟨q,p,_,_,_,r,s,t,u,v,w,x,y,z,aa,ab,ac,ad,ae,af⟩=>if(decide ((aZ (p -q))≤(12:Int)))=true then(Option.bind (Me q p r s t u v w x y z aa ab ac ad ae af) fun⟨a,b,c,d,e,f,g,h,i,j,k,l,m,n,o⟩=>some (a,b,c,d,e,f,g,h,i,j,k,l,m,n,o)) else none
def Mf(q0_:ZA)(a0:Int)(a1:Int)(a2:Int)(a3:Zp)(a4:Int)(a5:Zh)(a6:Zh)(a7:Zg)(a8:bL)(a9:Zc)(a10:Int)(a11:Int)(a12:Bool)(a13:Zd)(a14:Unit)(a15:Zf)(a16:Ze)(a17:Zi):Option Bb:=
 Io q0_ eP (a0,a1,a2,true,true,a3,a4,a5,a6,a7,a8,a9,a10,a11,a12,a13,a14,a15,a16,a17)
def aiJ:SS:=⟨148,188,[(0,.own 0),tI 1,tI 2,tI 3,(4,.func 28 .nil (.cons (pP 1) (.cons (pP 2) .nil))),(10,vB),(11,vB)],I1,[]⟩
def aiK:SS:=⟨148,188,[],I1,[]⟩
def Vb(q0_:ZA):aX:=aE G [] 55 [.own 0,vI,vI,vI,.func 28 .nil (.cons (pP 1) (.cons (pP 2) .nil))] I1 188 aiK [0,1,2,3,4,5,6,7,8] (.bH (u18 (Mf q0_)))
theorem Vc(q0_:ZA)(_h0_:hS (Mc q0_)):hS (Vb q0_):=
 cO ⟨[hE 4 [cB 0 [(0,0),(1,1),(2,2),(3,3),(4,4),(5,5),(6,6),(7,7),(8,8)] []],(5,⟨[],[],[],none,[(0,9999)],[],[]⟩)],[],[],[(2,⟨aiJ,fun _=>eP⟩)],[],[]⟩ (hq Va hz) aJ Tryz.call55 Tryz.func55
def Mg:Nat→ZA:=@Nat.rec (fun _=>(Int×Int×Int×(Zp)×Int×(Zh)×(Zh)×(Zg)×bL×(Zc)×Int×Int×Bool×(Zd)×Unit×(Zf)×(Ze)×(Zi)×Unit→Option Bb)) (fun _=>none) (fun _ ih=>(fun d=>Mf (ih) d.1 d.2.1 d.2.2.1 d.2.2.2.1 d.2.2.2.2.1 d.2.2.2.2.2.1 d.2.2.2.2.2.2.1 d.2.2.2.2.2.2.2.1 d.2.2.2.2.2.2.2.2.1 d.2.2.2.2.2.2.2.2.2.1 d.2.2.2.2.2.2.2.2.2.2.1 d.2.2.2.2.2.2.2.2.2.2.2.1 d.2.2.2.2.2.2.2.2.2.2.2.2.1 d.2.2.2.2.2.2.2.2.2.2.2.2.2.1 d.2.2.2.2.2.2.2.2.2.2.2.2.2.2.1 d.2.2.2.2.2.2.2.2.2.2.2.2.2.2.2.1 d.2.2.2.2.2.2.2.2.2.2.2.2.2.2.2.2.1 d.2.2.2.2.2.2.2.2.2.2.2.2.2.2.2.2.2.1))
theorem Ip(n:Nat):hS (Mc (Mg n)):=by
 induction n with
 |zero=>exact aX.J0
 |succ n ih=>exact Vc _ ih
def G6(a0:Int)(a1:Int)(a2:Int)(a3:Zp)(a4:Int)(a5:Zh)(a6:Zh)(a7:Zg)(a8:bL)(a9:Zc)(a10:Int)(a11:Int)(a12:Bool)(a13:Zd)(a14:Unit)(a15:Zf)(a16:Ze)(a17:Zi):Option Bb:=(Mg eP) (a0,a1,a2,a3,a4,a5,a6,a7,a8,a9,a10,a11,a12,a13,a14,a15,a16,a17,())
def Rq:aX:=aE G [] 55 [.own 0,vI,vI,vI,.func 28 .nil (.cons (pP 1) (.cons (pP 2) .nil))] I1 188 Mb [0,1,2,3,4,5,6,7,8] (.bH (u18 G6))
theorem Rr:hS Rq:=(Ip eP)
def Mh(a0:Zp)(a1:Int)(a2:Zh)(a3:Zh)(a4:Zg)(a5:bL)(a6:Zc)(a7:Int)(a8:Int)(a9:Bool)(a10:Zd)(a11:Unit)(a12:Zf)(a13:Ze)(a14:Zi):Option Bb:=
 Option.bind (f56 (IntKind.u64.wrap ((a0.length:Int)))) fun y1=>Option.bind (G6 (0:Int) (a0.length:Int) y1 a0 a1 a2 a3 a4 a5 a6 a7 a8 a9 a10 a11 a12 a13 a14) fun⟨a,b,c,d,e,f,g,h,i,j,k,l,m,n,o⟩=>some (a,b,c,d,e,f,g,h,i,j,k,l,m,n,o)
def aiL:SS:=⟨14,54,[],I1,[]⟩
def Vd:aX:=aE G [] 27 [.own 0,.func 28 .nil (.cons (pP 1) (.cons (pP 2) .nil))] I1 54 aiL [0,1,2,3,4,5,6,7,8] (.bH (YR Mh))
theorem Ve:hS Vd:=
 cO (hR [hE 1 [cA 0,cB 1 [(0,0),(1,1),(2,2),(3,3),(4,4),(5,5),(6,6),(7,7),(8,8)] []]]) (hq x56 (hq Rr hz)) aJ Tryz.call27 Tryz.func27
def AX(a0:Int)(a1:Zp)(a2:Zh)(a3:Zh)(a4:Zg)(a5:bL)(a6:Zc)(a7:Int)(a8:Int)(a9:Bool)(a10:Zd)(a11:Unit)(a12:Zf)(a13:Ze)(a14:Zi):Option (Zp×Zb):=
 Option.bind (Mh a1 a0 a2 a3 a4 a5 a6 a7 a8 a9 a10 a11 a12 a13 a14) fun⟨a,_,b,c,d,e,f,g,h,i,j,k,l,m,n⟩=>some (a,b,c,d,e,f,g,h,i,j,k,l,m,n)
def Y8:List (Nat×dj):=[(0,.row 44 32 bY),(1,.var (.aS .ptr) (pP 2)),(2,.var oc (.cons (.own 3) (.cons (.val (.map aF bN)) (.cons (.val (.map aF bN)) (.cons (pP 4) .nil))))),(3,.row 3 8 qr),(4,fB 5 6 7),(5,.map aF dZ),(6,.map aM .bool),(7,.row 110 40 aM)]
def aiM:SS:=⟨8,48,[],Y8,[]⟩
def Vf:aX:=aE G [] 26 [.own 0,vI,pP 1] Y8 48 aiM [0,1,2,3,4,5,6,7] (.bH (YR AX))
theorem Vg:hS Vf:=
 cO (hR [hE 1 [cB 0 [(0,0),(1,20),(2,1),(3,2),(4,3),(5,4),(6,5),(7,6),(8,7)] []]]) (hq Ve hz) aJ Tryz.call26 Tryz.func26
def CO:Nat→Zm×Int×Int×Zay→Option (cH Zay Zp):=aK fun anz ⟨c,b,a,e,f,g,h,i,j,k,l,m,n,o,p,q,d⟩=>if(decide (a<b))=true then(if 0≤a then(if a<(c.length:Int) then(Option.bind (U6 (1:Int) (nth bN c a)) fun y6=>if(d.length+List.length [y6])*32≤aG then(anz (c,b,aZ (a+1),e,f,g,h,i,j,k,l,m,n,o,p,q,d++[y6])) else none) else none) else none) else(some (.bA (e,f,g,h,i,j,k,l,m,n,o,p,q,d)))
def yy:Nat→Zm×Int×Int×Zaw→Option (cH Zaw Zp):=aK fun rec10 ⟨c,b,a,e,f,g,h,i,j,k,l,m,n,o,p,q,r,d⟩=>if(decide (a<b))=true then(if 0≤a then(if a<(c.length:Int) then(Option.bind (U6 (2:Int) (nth bN c a)) fun y11=>if(d.length+List.length [y11])*32≤aG then(rec10 (c,b,aZ (a+1),e,f,g,h,i,j,k,l,m,n,o,p,q,r,d++[y11])) else none) else none) else none) else(some (.bA (e,f,g,h,i,j,k,l,m,n,o,p,q,r,d)))
def Mi(a0:bL)(a1:Zg)(a2:Int)(a3:Int)(a4:Int):Option Zp:=
 Option.bind (iF a0 a1 a2 a3 a4) fun⟨a,d,e,f,g,h,i,j,k,b,c,n,l,m⟩=>if(!a)=true then(some ([]:Zp)) else(aH (U:=Zay) (Option.bind (po b c d e f g h i j k l m n) fun⟨o,x,y,p,q,r,s,t,u,v,w,aa,ab,z⟩=>CO (Int.toNat (o.length:Int)+1) (o,(o.length:Int),0,p,q,r,s,t,u,v,w,x,y,z,aa,ab,([]:Zp))) fun⟨ae,af,ag,ah,ai,aj,ak,al,ac,ad,ao,am,an,ap⟩=>aH (U:=Zaw) (Option.bind (lL ac ad ae af ag ah ai aj ak al am an ao) fun⟨aq,a6,a7,ar,au,av,aw,ax,ay,az,a5,a9,ba,a8⟩=>yy (Int.toNat (aq.length:Int)+1) (aq,(aq.length:Int),0,ar,au,av,aw,ax,ay,az,a5,a6,a7,a8,a9,ba,ap,([]:Zp))) fun⟨be,bf,bg,bh,bi,bj,bk,bl,bc,bd,bo,bm,bn,bb,bp⟩=>Option.bind (AX (1:Int) bb bc bd be bf bg bh bi bj bk bl bm bn bo) fun⟨b4,bq,br,bs,bt,bu,bv,bw,bx,bz,b0,b1,b2,b3⟩=>Option.bind (AX (-1:Int) bp bq br bs bt bu bv bw bx bz b0 b1 b2 b3) fun⟨b5,_,_,_,_,_,_,_,_,_,_,_,_,_⟩=>if(b4.length+b5.length)*32≤aG then(some (b4++b5)) else none)
def aiN:SS:=⟨66,106,[(10,.own 88),tP 11 27,(13,.bF)],[(27,.var (.aS .ptr) (pP 83)),(41,.row 3 8 qr),(82,fB 85 86 84),(83,.var oc (.cons (.own 41) (.cons (.val (.map aF bN)) (.cons (.val (.map aF bN)) (.cons (pP 82) .nil))))),(84,.row 110 40 aM),(85,.map aF dZ),(86,.map aM .bool),(88,.row 44 32 bY)],[]⟩
def aiO:SS:=⟨66,106,[(10,.own 88),tP 11 27,(13,.own 90)],[(27,.var (.aS .ptr) (pP 83)),(41,.row 3 8 qr),(82,fB 85 86 84),(83,.var oc (.cons (.own 41) (.cons (.val (.map aF bN)) (.cons (.val (.map aF bN)) (.cons (pP 82) .nil))))),(84,.row 110 40 aM),(85,.map aF dZ),(86,.map aM .bool),(88,.row 44 32 bY),(90,.row 44 32 bY)],[]⟩
def aiP:SS:=⟨66,106,[(10,.own 87),tP 11 27,(13,.bF),(31,.val (.slice 48 bN)),tI 32,tI 33],[(27,.var (.aS .ptr) (pP 83)),(41,.row 3 8 qr),(82,fB 85 86 84),(83,.var oc (.cons (.own 41) (.cons (.val (.map aF bN)) (.cons (.val (.map aF bN)) (.cons (pP 82) .nil))))),(84,.row 110 40 aM),(85,.map aF dZ),(86,.map aM .bool),(87,.row 44 32 bY)],[]⟩
def aiQ:SS:=⟨66,106,[(10,.own 88),tP 11 27,(13,.own 89),(44,.val (.slice 48 bN)),tI 45,tI 46],[(27,.var (.aS .ptr) (pP 83)),(41,.row 3 8 qr),(82,fB 85 86 84),(83,.var oc (.cons (.own 41) (.cons (.val (.map aF bN)) (.cons (.val (.map aF bN)) (.cons (pP 82) .nil))))),(84,.row 110 40 aM),(85,.map aF dZ),(86,.map aM .bool),(88,.row 44 32 bY),(89,.row 44 32 bY)],[]⟩
def Vh:SS:=⟨66,106,[(10,.val (.slice 32 bY))],[],[]⟩
def Y9:aX:=aE G [.tmp 10] 9 [.val fX,.val (.slice 8 qr),vI,vI,vI] [] 106 Vh [] (.bH (u5 Mi))
theorem Z0:hS Y9:=
 cO ⟨[hE 1 [cB 0 [] [(41,41),(45,82),(47,83),(82,84),(88,85),(89,86)]],hE 5 [cB 1 [(0,83),(1,41),(2,82),(3,85),(4,86),(5,84)] []],hA 8 2,hE 10 [cB 3 [(0,83),(1,41),(2,82),(3,85),(4,86),(5,84)] []],hA 13 2,hE 16 [cB 4 [(0,88),(1,27),(2,83),(3,41),(4,82),(5,85),(6,86),(7,84)] []],hE 17 [cB 4 [(0,90),(1,27),(2,83),(3,41),(4,82),(5,85),(6,86),(7,84)] []]],[(10,aiN),(15,aiO)],[],[(6,⟨aiP,fun u4=>Int.toNat u4.2.1+1⟩),(11,⟨aiQ,fun u9=>Int.toNat u9.2.1+1⟩)],[],[]⟩ (hq o9 (hq AW (hq x24 (hq wK (hq Vg hz))))) aJ Tryz.call9 Tryz.func9
def jb(a0:bL)(a1:Zg)(a2:Int)(_a3:Int)(_a4:Int):Zo:=
 Option.bind (Wi a0.1 a1 a2) fun y1=>if(!y1)=true then(some false) else none
def aiR:SS:=⟨72,112,[(10,.fC),(11,vB)],[],[]⟩
def Vi:aX:=aE G [.tmp 10,.tmp 11] 22 [.val fX,.val (.slice 8 qr),vI,vI,vI] [] 112 aiR [] (.bH (u5 jb))
theorem pq:hS Vi:=
 cO (hR [hA 1 0,(3,⟨[],[],[],none,[(0,9999)],[],[]⟩)]) (hq x50 hz) aJ Tryz.call22 Tryz.func22
def Mj(a0:bL)(a1:Zg)(a2:Int)(a3:Int)(a4:Int):Option Zp:=
 Option.bind (jb a0 a1 a2 a3 a4) fun y1=>if(!y1)=true then(some ([]:Zp)) else none
def Z1:aX:=aE G [.tmp 10] 9 [.val fX,.val (.slice 8 qr),vI,vI,vI] [] 106 Vh [] (.bH (u5 Mj))
theorem Z2:hS Z1:=
 cO (hR [hA 1 0,(4,⟨[],[],[],none,[(0,9999)],[],[]⟩)]) (hq pq hz) aJ Tryz.call9 Tryz.func9
def f9(a0:bL)(a1:Zg)(a2:Int)(a3:Int)(a4:Int):Option Zp:=
 N3 (Mi a0 a1 a2 a3 a4) (Mj a0 a1 a2 a3 a4)
def c9:aX:=aE G [.tmp 10] 9 [.val fX,.val (.slice 8 qr),vI,vI,vI] [] 106 Vh [] (.bH (u5 f9))
theorem x9:hS c9:=aX.or Z0 Z2
def Vj:Nat→Zp×Zp×Int→Zy:=aK fun am3 ⟨b,c,a⟩=>if(decide (a<(b.length:Int)))=true then(if 0≤a then(if a<(b.length:Int) then(if 0≤a then(if a<(c.length:Int) then(if(!bD bY (nth bY b a) (nth bY c a))=true then none else(am3 (b,c,aZ (a+1)))) else none) else none) else none) else none) else(some (.bA ()))
def f19(a0:Zp)(a1:Zp):Zo:=
 if(!decide ((a0.length:Int)=(a1.length:Int)))=true then none else(aH (U:=Unit) (Vj eP (a0,a1,0)) fun _=>some true)
def aiS:SS:=⟨26,66,[],[],[]⟩
def aiT:SS:=⟨26,66,[(0,.val (.slice 32 bY)),(1,.val (.slice 32 bY)),tI 5],[],[]⟩
def aiU:SS:=⟨26,66,[(4,vB)],[],[]⟩
def c19:aX:=aE G [.tmp 4] 19 [.val (.slice 32 bY),.val (.slice 32 bY)] [] 66 aiU [] (.bH (u2 f19))
theorem x19:hS c19:=
 cO ⟨[(2,⟨[],[],[],none,[(0,9999)],[],[]⟩),(7,⟨[],[],[],none,[(0,9999)],[],[]⟩)],[(8,aiS)],[],[(4,⟨aiT,fun _=>eP⟩)],[],[]⟩ hz aJ Tryz.call19 Tryz.func19
def EN(a0:Zp)(a1:Zh)(a2:Zh)(a3:Zg)(a4:bL)(a5:Zc)(a6:Int)(a7:Int)(a8:Bool)(a9:Zd)(a10:Unit)(a11:Zf)(a12:Ze)(a13:Zi):Option (Zh×Zh×Zg×bL×Zc×Int×Int×Bool×Zd×Unit×Zf×Ze×Zi×Zp):=
 some (a1,a2,a3,a4,a5,a6,a7,a8,a9,a10,a11,a12,a13,a0)
def aiV:SS:=⟨6,46,[(4,.func 63 .nil (.cons (pP 18) (.cons (pP 19) .nil)))],[(0,.var oc (.cons (.own 1) (.cons (.val (.map aF bN)) (.cons (.val (.map aF bN)) (.cons (pP 2) .nil))))),(1,.row 3 8 qr),(2,fB 3 4 5),(3,.map aF dZ),(4,.map aM .bool),(5,.row 110 40 aM),(18,.var (.aS .ptr) (pP 0)),(19,.var (.slice 32 bY) (.val (.slice 32 bY)))],[]⟩
def Vk:aX:=aE G [.tmp 4] 38 [pP 0,.val (.slice 32 bY)] I0 46 aiV [0,1,2,3,4,5,18,19] (.bH (MO EN))
theorem Vl:hS Vk:=
 cO (hR []) hz aJ Tryz.call38 Tryz.func38
def Vm:Nat→Zm×Zm×Int×Int×ZH→Option (cH (Zm×ZH) (Option ZH)):=aK fun am3 ⟨e,c,b,a,d⟩=>if(decide (a<b))=true then(if 0≤a then(if a<(c.length:Int) then(Option.bind (U6 (2:Int) (nth bN c a)) fun y4=>Option.bind (MM (nth bN c a)) fun y5=>if d.length+1≤aG then(am3 (e,c,b,aZ (a+1),bC bY y4 (y5,false,()) d)) else none) else none) else none) else(some (.bA (e,d)))
def Vn:Nat→Zm×Int×Int×ZH→Option (cH ZH (Option ZH)):=aK fun rec8 ⟨c,b,a,d⟩=>if(decide (a<b))=true then(if 0≤a then(if a<(c.length:Int) then(Option.bind (U6 (1:Int) (nth bN c a)) fun y9=>Option.bind (MM (nth bN c a)) fun y10=>if d.length+1≤aG then(rec8 (c,b,aZ (a+1),bC bY y9 (y10,true,()) d)) else none) else none) else none) else(some (.bA d))
def f58(a0:Zm)(a1:Zm):Option (Option ZH):=
 aH (U:=Zm×ZH) (Vm (Int.toNat (a0.length:Int)+1) (a1,a0,(a0.length:Int),0,([]:ZH))) fun⟨a,b⟩=>aH (U:=ZH) (Vn (Int.toNat (a.length:Int)+1) (a,(a.length:Int),0,b)) fun v6=>some (some v6)
def Z3:List (Nat×Sh):=[(1,.val (.slice 48 bN)),(5,.mp 26)]
def aiX:SS:=⟨38,78,Z3,[(26,.map bY dX)],[]⟩
def aiY:SS:=⟨38,78,[(5,.mp 26)],[(26,.map bY dX)],[]⟩
def Z4:List (Nat×Sh):=[(1,.val (.slice 48 bN)),(5,.mp 26),(11,.val (.slice 48 bN)),tI 12,tI 13]
def aiZ:SS:=⟨38,78,Z4,[(26,.map bY dX)],[]⟩
def Z5:List (Nat×Sh):=[(5,.mp 26),(24,.val (.slice 48 bN)),tI 25,tI 26]
def ai0:SS:=⟨38,78,Z5,[(26,.map bY dX)],[]⟩
def ai1:SS:=⟨38,78,[(4,.val (.map bY dX))],[],[]⟩
def c58:aX:=aE G [.tmp 4] 58 [.val (.slice 48 bN),.val (.slice 48 bN)] [] 78 ai1 [] (.bH (u2 f58))
theorem x58:hS c58:=
 cO ⟨[hE 5 [cA 0,cA 1],hE 10 [cA 0,cA 1]],[(7,aiX),(12,aiY)],[],[(3,⟨aiZ,fun u2=>Int.toNat u2.2.2.1+1⟩),(8,⟨ai0,fun u7=>Int.toNat u7.2.1+1⟩)],[],[]⟩ (hq x24 (hq XO hz)) aJ Tryz.call58 Tryz.func58
def rX(l_:Nat)(Y_:ZZ):Nat→Nat×Option ZH×Zp×Int×Int×YC×Nat×Nat×Zg×bL×Zc×Int×Int×Bool×Zd×Unit×Zh×Zh×Zi×Zf×Ze×Zp×ZR×Zv→Option (cH ZP ZP):=aK fun rec9 ⟨u,s,r,q,p,v,w,x,z,aa,ab,ac,ad,ae,af,ag,ah,ai,aj,ak,al,am,t,y⟩=>if(decide (p<q))=true then(if 0≤p then(if p<(r.length:Int) then(if(cC bY (nth bY r p) (bE s))=true then(if(aQ bY dX (nth bY r p) (bE s)).2.1=true then(if t.length+1≤aG then(if u=l_ then(Option.bind (Y_ (aZ (p+1),some (bC dX (aQ bY dX (nth bY r p) (bE s)) true t),v,w,x,y,())) fun⟨a,b,c,d,e⟩=>if(!a)=true then(cw (some (b,c,d,z,aa,ab,ac,ad,ae,af,ag,ah,ai,aj,ak,al,am,e))) else(rec9 (u,s,r,q,aZ (p+1),b,c,d,z,aa,ab,ac,ad,ae,af,ag,ah,ai,aj,ak,al,am,bC dX (aQ bY dX (nth bY r p) (bE s)) true t,e))) else none) else none) else(if u=l_ then(Option.bind (Y_ (aZ (p+1),some (mZ dX (aQ bY dX (nth bY r p) (bE s)) t),v,w,x,y,())) fun⟨f,g,h,i,j⟩=>if(!f)=true then(cw (some (g,h,i,z,aa,ab,ac,ad,ae,af,ag,ah,ai,aj,ak,al,am,j))) else(rec9 (u,s,r,q,aZ (p+1),g,h,i,z,aa,ab,ac,ad,ae,af,ag,ah,ai,aj,ak,al,am,mZ dX (aQ bY dX (nth bY r p) (bE s)) t,j))) else none)) else(if u=l_ then(Option.bind (Y_ (aZ (p+1),some t,v,w,x,y,())) fun⟨k,l,m,n,o⟩=>if(!k)=true then(cw (some (l,m,n,z,aa,ab,ac,ad,ae,af,ag,ah,ai,aj,ak,al,am,o))) else(rec9 (u,s,r,q,aZ (p+1),l,m,n,z,aa,ab,ac,ad,ae,af,ag,ah,ai,aj,ak,al,am,t,o))) else none)) else none) else none) else(some (.bA (v,w,x,z,aa,ab,ac,ad,ae,af,ag,ah,ai,aj,ak,al,am,y)))
def rY(l_:Nat)(Y_:ZZ):Nat→Nat×Option ZH×YC×Nat×Nat×Zv×Zg×bL×Zc×Int×Int×Bool×Zd×Unit×Zh×Zh×Zi×Zf×Ze×Zp×ZR×List (cF×mi)→Option ZP:=aK fun anz ⟨y,au,aa,ab,ac,ad,ae,af,ag,ah,ai,aj,ak,al,am,an,ao,ap,aq,ar,z,x⟩=>if List.isEmpty x=true then(if y=l_ then(Option.bind (Y_ (0,some z,aa,ab,ac,ad,())) fun⟨a,b,c,d,e⟩=>if(!a)=true then(some (b,c,d,ae,af,ag,ah,ai,aj,ak,al,am,an,ao,ap,aq,ar,e)) else(aH (U:=ZP) (rX l_ Y_ (Int.toNat (ar.length:Int)+1) (y,au,ar,(ar.length:Int),0,b,c,d,ae,af,ag,ah,ai,aj,ak,al,am,an,ao,ap,aq,ar,z,e)) fun⟨f,g,h,i,j,k,l,m,n,o,p,q,r,s,t,u,v,w⟩=>some (f,g,h,i,j,k,l,m,n,o,p,q,r,s,t,u,v,w))) else none) else th x fun x13 l14=>if z.length+1≤aG then(anz (y,au,aa,ab,ac,ad,ae,af,ag,ah,ai,aj,ak,al,am,an,ao,ap,aq,ar,bC dX (x13.1,false,()) true z,l14)) else none
def EO(l_:Nat)(Y_:ZZ)(a0:Nat)(a1:YC)(a2:Nat)(a3:Nat)(a4:Zv)(a5:Zg)(a6:bL)(a7:Zc)(a8:Int)(a9:Int)(a10:Bool)(a11:Zd)(a12:Unit)(a13:Zh)(a14:Zh)(a15:Zi)(a16:Zf)(a17:Ze)(a18:Zp):Option ZP:=
 Option.bind (lL a13 a14 a5 a6 a7 a8 a9 a10 a11 a12 a16 a17 a15) fun⟨n,a,b,c,d,e,f,g,h,i,j,k,l,m⟩=>Option.bind (po a b c d e f g h i j k l m) fun⟨o,p,y,q,r,s,t,u,v,w,x,aa,ab,z⟩=>Option.bind (f58 n o) fun y3=>rY l_ Y_ (List.length (bE p)+1) (a0,y3,a1,a2,a3,a4,q,r,s,t,u,v,w,x,p,y,z,aa,ab,a18,([]:ZR),bE p)
def ai2:SS:=⟨60,100,[],[(0,.lp),(1,.tv (.slice 32 dX) (.own 79)),(3,.row 3 8 qr),(4,.var (.aS .ptr) (pP 6)),(5,fB 8 9 7),(6,.var oc (.cons (.own 3) (.cons (.val (.map aF bN)) (.cons (.val (.map aF bN)) (.cons (pP 5) .nil))))),(7,.row 110 40 aM),(8,.map aF dZ),(9,.map aM .bool),(10,.var (.slice 32 bY) (.val (.slice 32 bY))),(79,.gu 90 32 dX)],[]⟩
def ai3:SS:=⟨60,100,[(0,.zg),tP 2 10,(4,.val (.map bY dX)),(5,.mp 32),tP 21 37],[(0,.lp),(1,.tv (.slice 32 dX) (.own 2)),(2,.gu 90 32 dX),(3,.row 3 8 qr),(4,.var (.aS .ptr) (pP 6)),(5,fB 8 9 7),(6,.var oc (.cons (.own 3) (.cons (.val (.map aF bN)) (.cons (.val (.map aF bN)) (.cons (pP 5) .nil))))),(7,.row 110 40 aM),(8,.map aF dZ),(9,.map aM .bool),(10,.var (.slice 32 bY) (.val (.slice 32 bY))),(32,.map dX .bool),(37,.ko aF bN)],[]⟩
def ai4:SS:=⟨60,100,[(0,.zg),(4,.val (.map bY dX)),(5,.mp 32),(33,.val (.slice 32 bY)),tI 34,tI 35],[(0,.lp),(1,.tv (.slice 32 dX) (.own 78)),(3,.row 3 8 qr),(4,.var (.aS .ptr) (pP 6)),(5,fB 8 9 7),(6,.var oc (.cons (.own 3) (.cons (.val (.map aF bN)) (.cons (.val (.map aF bN)) (.cons (pP 5) .nil))))),(7,.row 110 40 aM),(8,.map aF dZ),(9,.map aM .bool),(10,.var (.slice 32 bY) (.val (.slice 32 bY))),(32,.map dX .bool),(78,.gu 90 32 dX)],[]⟩
def ai5:SS:=⟨60,100,[],[(0,.lp),(1,.tv (.slice 32 dX) (.own 80)),(3,.row 3 8 qr),(4,.var (.aS .ptr) (pP 6)),(5,fB 8 9 7),(6,.var oc (.cons (.own 3) (.cons (.val (.map aF bN)) (.cons (.val (.map aF bN)) (.cons (pP 5) .nil))))),(7,.row 110 40 aM),(8,.map aF dZ),(9,.map aM .bool),(10,.var (.slice 32 bY) (.val (.slice 32 bY))),(80,.gu 90 32 dX)],[]⟩
def EP:IC:=⟨[vI,.val (.map dX .bool)],[(0,.lp),(1,.tv (.slice 32 dX) (.own 2)),(2,.gu 90 32 dX)],123,0,[(1,.tv (.slice 32 dX) (.own 107)),(107,.gu 90 32 dX)],fun l f=>aE G [] 63 [.zg,pP 4,pP 10] [(0,.lp),(1,.tv (.slice 32 dX) (.own 2)),(2,.gu 90 32 dX),(3,.row 3 8 qr),(4,.var (.aS .ptr) (pP 6)),(5,fB 8 9 7),(6,.var oc (.cons (.own 3) (.cons (.val (.map aF bN)) (.cons (.val (.map aF bN)) (.cons (pP 5) .nil))))),(7,.row 110 40 aM),(8,.map aF dZ),(9,.map aM .bool),(10,.var (.slice 32 bY) (.val (.slice 32 bY)))] 100 ai5 [0,1,3,4,5,6,7,8,9,10,80] (.bH (u19 (EO l f)))⟩
theorem Vo:EP.holds Tryz.prog gl:=fun B hB l f hY=>
 aX.of tied (H:=⟨[hE 0 [cB 1 [(0,6),(1,3),(2,5),(3,8),(4,9),(5,7)] [],cB 2 [(0,6),(1,3),(2,5),(3,8),(4,9),(5,7)] [],cA 3],hE 5 [cB 0 [(0,0),(1,1),(2,2)] [(107,76)]],hE 14 [cB 0 [(0,0),(1,1),(2,78)] [(107,77)]]],[],[(2,ai2)],[(2,⟨ai3,fun u4=>List.length u4.2.2.2.2.2.2.2.2.2.2.2.2.2.2.2.2.2.2.2.2.2+1⟩),(7,⟨ai4,fun u8=>Int.toNat u8.2.2.2.1+1⟩)],[],[]⟩) (hold (l:=[IC.Y EP l f,Ma,L9,c58]) ⟨hY,wK.up rfl (fun _ _=>trivial),AW.up rfl (fun _ _=>trivial),x58.up rfl (fun _ _=>trivial),trivial⟩) aJ rfl Tryz.call63 Tryz.func63 rfl rfl rfl rfl (fun _=>by kernel_rfl) (fun _=>by kernel_rfl)
def f40(a0:YP)(a1:YP):ZW:=
 Option.bind (α:=Bool) (if(bD aF a0.1 a1.1)=true then(some (!(a0.2.1==a1.2.1))) else(some false)) fun v1=>if v1=true then(if a1.2.1=true then(some (-1:Int)) else(some (1:Int))) else(Option.bind (f41 a0.1 a1.1) fun y2=>some y2)
def ai6:SS:=⟨24,64,[tI 4],[],[]⟩
def c40:aX:=aE G [.tmp 4] 40 [.val dX,.val dX] [] 64 ai6 [] (.bH (u2 f40))
theorem x40:hS c40:=
 cO (hR [hD 1 16 [],hA 5 0]) (hq x41 hz) aJ Tryz.call40 Tryz.func40
def Mk:SS:=⟨148,188,[],[(0,.row 90 32 dX)],[]⟩
def Ml(q:Wu):aX:=aE G [] 64 [.own 0,vI,vI,vI,.func 40 .nil .nil] [(0,.row 90 32 dX)] 188 Mk [0] (.bH q)
def Iq:Nat→Int×Int×Int×Int×Zv→Option (cH (Int×Int×Int×Zv) (cH Zv Zv)):=aK fun anC ⟨f,i,j,g,h⟩=>aH (U:=Int×Int×Int×Int×Zv) (Option.bind (α:=Bool) (if(decide (f<g))=true then(if 0≤g then(if g<(h.length:Int) then(if 0≤(aZ (g -(1:Int))) then(if(aZ (g -(1:Int)))<(h.length:Int) then(Option.bind (f40 (nth dX h g) (nth dX h (aZ (g -(1:Int))))) fun y8=>some (decide (y8<(0:Int)))) else none) else none) else none) else none) else(some false)) fun v9=>if v9=true then(some (.bA (f,i,j,g,h))) else(cw (some (.bA (f,i,j,h))))) fun⟨c,d,e,a,b⟩=>if 0≤(aZ (a -(1:Int))) then(if(aZ (a -(1:Int)))<(b.length:Int) then(if 0≤a then(if a<(b.length:Int) then(if 0≤a then(if a<(b.length:Int) then(if 0≤(aZ (a -(1:Int))) then(if(aZ (a -(1:Int)))<(List.length (List.set b (Int.toNat a) (nth dX b (aZ (a -(1:Int))))):Int) then(anC (c,d,e,aZ (a -(1:Int)),List.set (List.set b (Int.toNat a) (nth dX b (aZ (a -(1:Int))))) (Int.toNat (aZ (a -(1:Int)))) (nth dX b a))) else none) else none) else none) else none) else none) else none) else none) else none
def Ir:Nat→Int×Int×Int×Zv→Option (cH Zv Zv):=aK fun am3 ⟨g,f,e,h⟩=>if(decide (e<f))=true then(aH (U:=Int×Int×Int×Zv) (Iq eP (g,f,e,e,h)) fun⟨a,b,c,d⟩=>am3 (a,b,aZ (c+1),d)) else(some (.bA h))
def Mm(a0:Int)(a1:Int)(a2:Zv):Option Zv:=
 aH (U:=Zv) (Ir eP (a0,a1,aZ (a0+1),a2)) fun v1=>some v1
def Z6:SS:=⟨53,93,[(0,.own 0),tI 1,tI 2,(3,.func 40 .nil .nil),tI 8],[(0,.row 90 32 dX)],[]⟩
def Z7:SS:=⟨53,93,[(0,.own 0),tI 1,tI 2,(3,.func 40 .nil .nil),tI 8,tI 9],[(0,.row 90 32 dX)],[]⟩
def Z8:SS:=⟨53,93,[],[(0,.row 90 32 dX)],[]⟩
def Vp:aX:=aE G [] 91 [.own 0,vI,vI,.func 40 .nil .nil] [(0,.row 90 32 dX)] 93 Z8 [0] (.bH (u3 Mm))
theorem Vq:hS Vp:=
 cO ⟨[hD 4 34 [cA 0]],[(2,Z6),(6,Z7)],[(0,Z8)],[(1,⟨Z6,fun _=>eP⟩),(4,⟨Z7,fun _=>eP⟩)],[],[]⟩ (hq x40 hz) aJ Tryz.call91 Tryz.func91
def Is(_q0_:Wu):Nat→Int×Int×Int×Bool×Bool×Zv→Option Zv:=aK fun _rec2 ⟨b,a,_,_,_,c⟩=>if(decide ((aZ (a -b))≤(12:Int)))=true then(Option.bind (Mm b a c) fun y3=>some y3) else none
def Mn(q0_:Wu)(a0:Int)(a1:Int)(a2:Int)(a3:Zv):Option Zv:=
 Is q0_ eP (a0,a1,a2,true,true,a3)
def ai7:SS:=⟨148,188,[(0,.own 0),tI 1,tI 2,tI 3,(4,.func 40 .nil .nil),(10,vB),(11,vB)],[(0,.row 90 32 dX)],[]⟩
def ai8:SS:=⟨148,188,[],[(0,.row 90 32 dX)],[]⟩
def Vr(q0_:Wu):aX:=aE G [] 64 [.own 0,vI,vI,vI,.func 40 .nil .nil] [(0,.row 90 32 dX)] 188 ai8 [0] (.bH (u4 (Mn q0_)))
theorem Vs(q0_:Wu)(_h0_:hS (Ml q0_)):hS (Vr q0_):=
 cO ⟨[hE 4 [cB 0 [(0,0)] []],(5,⟨[],[],[],none,[(0,9999)],[],[]⟩)],[],[],[(2,⟨ai7,fun _=>eP⟩)],[],[]⟩ (hq Vq hz) aJ Tryz.call64 Tryz.func64
def Mo:Nat→Wu:=@Nat.rec (fun _=>(Int×Int×Int×(Zv)×Unit→Option Zv)) (fun _=>none) (fun _ ih=>(fun d=>Mn (ih) d.1 d.2.1 d.2.2.1 d.2.2.2.1))
theorem It(n:Nat):hS (Ml (Mo n)):=by
 induction n with
 |zero=>exact aX.J0
 |succ n ih=>exact Vs _ ih
def G7(a0:Int)(a1:Int)(a2:Int)(a3:Zv):Option Zv:=(Mo eP) (a0,a1,a2,a3,())
def Rt:aX:=aE G [] 64 [.own 0,vI,vI,vI,.func 40 .nil .nil] [(0,.row 90 32 dX)] 188 Mk [0] (.bH (u4 G7))
theorem Rv:hS Rt:=(It eP)
def ER(a0:Zv):Option Zv:=
 Option.bind (f56 (IntKind.u64.wrap ((a0.length:Int)))) fun y1=>Option.bind (G7 (0:Int) (a0.length:Int) y1 a0) fun y2=>some y2
def ai9:SS:=⟨14,54,[],[(0,.row 90 32 dX)],[]⟩
def Vt:aX:=aE G [] 39 [.own 0,.func 40 .nil .nil] [(0,.row 90 32 dX)] 54 ai9 [0] (.bH (u1 ER))
theorem Vu:hS Vt:=
 cO (hR [hE 1 [cA 0,cB 1 [(0,0)] []]]) (hq x56 (hq Rv hz)) aJ Tryz.call39 Tryz.func39
end Go.Proofs.YtpmlkhjpbjnagaaGreat
