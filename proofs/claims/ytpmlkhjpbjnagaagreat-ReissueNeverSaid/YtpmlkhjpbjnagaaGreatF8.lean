/- part -/
import Derived.Test.YtpmlkhjpbjnagaaGreatUL
import Derived.Test.YtpmlkhjpbjnagaaGreatY1
import Derived.Test.YtpmlkhjpbjnagaaGreatA5
noncomputable section
namespace Go.Proofs.YtpmlkhjpbjnagaaGreat
open Go.Ax
def A6(a0:Int)(a1:Int)(a2:Int)(a3:bz)(a4:Zb)(a5:Int)(a6:Int)(a7:Bool)(a8:Zc)(a9:Unit)(a10:Zf)(a11:Zd)(a12:Zh):Option (Bool×bz×Zb×Int×Int×Bool×Zc×Unit×Zf×Zd×mq×Zh):=
 aI (U:=Int×Int×Int×bz×Zb×Int×Int×Bool×Zc×Unit×Zf×Zd×Zh×Int×yq) (if(aP (.int .i64) .bool a0 (aX a8))=true then(if !decide (a2=(0:Int)) then(bU (some (false,a3,a4,a5,a6,a7,a8,a9,a10,a11,(0,0,0,([]:Ze),()),a12))) else((vK a0 a1 a3 a4 a5 a6 a7 a8 a9 a10 a11 a12).bind fun⟨a,b,c,d,e,f,g,h,i,j,k⟩=>if !a then(bU (some (false,b,c,d,e,f,g,h,i,j,(0,0,0,([]:Ze),()),k))) else(some (.brk (a0,a1,a2,b,c,d,e,f,g,h,i,j,k,0,0,0))))) else(some (.brk (a0,a1,a2,a3,a4,a5,a6,a7,a8,a9,a10,a11,a12,0,0,0)))) fun⟨l,m,n,o,p,q,r,s,t,u,v,w,x,_,_,_⟩=>(dO (l,m,n,()) o p q r s t u v w x).bind fun⟨z,aa,ab,ac,ad,ae,af,ag,ah,y,ai⟩=>some (y.2.2.2.1,z,aa,ab,ac,ad,ae,af,ag,ah,y.1,ai)
def ady:SS:=⟨39,79,[tP 0 0,tI 1,tI 2,tI 3,tP 8 24],[(0,fB 1 2 3),(1,.map aK eF),(2,.map aR .bool),(3,.row 110 40 aR),(24,.var bp (.cons vI (.cons vI (.cons vI (.cons .bn .nil)))))],[]⟩
def adz:SS:=⟨39,79,[tP 8 24,(9,vB)],[(0,fB 1 2 55),(1,.map aK eF),(2,.map aR .bool),(24,bV bp),(55,.row 110 40 aR)],[]⟩
def UK:bh:=aF G [.cell 8 50,.tmp 9] 68 [pP 0,vI,vI,vI] Jc 79 adz [0,1,2,55] (.br (I5 A6))
theorem UL:hS UK:=
 cO ⟨[hE 1 [cB 0 [(0,0),(1,1),(2,2),(3,3)] []],hE 3 [cB 1 [(0,0),(1,1),(2,2),(3,3)] [(93,50)]]],[(3,ady)],[],[],[],[]⟩ (hq Kw (hq Cv hz)) aJ Tryz.call68 Tryz.func68
def iL:Nat→Int×Int×Int×Int×Int×Int×Zt→Option (cL (Int×Int×Int×Zt) (cL Zt (Zl×Zn))):=aL fun rec7 ⟨p,o,ab,ac,n,m,q,r,s,t,u,v,w,x,y,aa,z⟩=>if decide (m<n) then((A6 o p m q r s t u v w x y z).bind fun⟨a,c,d,e,f,g,h,i,j,k,b,l⟩=>if a=true then(if(List.length aa+List.length [b])*48≤aH then(rec7 (p,o,ab,ac,n,bq (m+1),c,d,e,f,g,h,i,j,k,aa++[b],l)) else none) else(rec7 (p,o,ab,ac,n,bq (m+1),c,d,e,f,g,h,i,j,k,aa,l))) else(some (.brk (p,ab,ac,q,r,s,t,u,v,w,x,y,aa,z)))
def sQ:Nat→Int×Int×Int×Zt→Option (cL Zt (Zl×Zn)):=aL fun amC ⟨ah,af,ae,ai,aj,ak,al,am,ag,an,ao,ap,aq,ar⟩=>if decide (ae<af) then(aI (U:=Int×Int×Int×Zt) (aI (U:=Int×Int×Int×Int×Int×Zt) (if(aP (.int .i64) .bool ae (aX ag))=true then(some (.brk (ah,ae,1,af,ae,ai,aj,ak,al,am,ag,an,ao,ap,aq,ar))) else(some (.brk (ah,ae,4,af,ae,ai,aj,ak,al,am,ag,an,ao,ap,aq,ar)))) fun⟨b,c,a,d,e,f,g,h,i,j,k,l,m,n,o,p⟩=>iL (Int.toNat a+1) (b,c,d,e,a,0,f,g,h,i,j,k,l,m,n,o,p)) fun⟨q,r,s,t,u,v,w,x,y,z,aa,ab,ac,ad⟩=>amC (q,r,bq (s+1),t,u,v,w,x,y,z,aa,ab,ac,ad)) else(some (.brk (ai,aj,ak,al,am,ag,an,ao,ap,aq,ar)))
def ny(a0:Int)(a1:bz)(a2:Zb)(a3:Int)(a4:Int)(a5:Bool)(a6:Zc)(a7:Unit)(a8:Zf)(a9:Zd)(a10:Zh):Option (Zl×Zn):=
 aI (U:=Zt) (sQ (Int.toNat (a1.1.1.2.2.1.length:Int)+1) (a0,(a1.1.1.2.2.1.length:Int),0,a1,a2,a3,a4,a5,a6,a7,a8,a9,([]:Zl),a10)) fun⟨b,c,d,e,f,g,h,i,j,a,k⟩=>some (a,b,c,d,e,f,g,h,i,j,k)
def Yl:List (Nat×de):=[(0,fB 1 2 68),(1,.map aK eF),(2,.map aR .bool),(67,.row 50 48 bp),(68,.row 110 40 aR)]
def adA:SS:=⟨47,87,[tP 0 0,tI 1,(4,.own 67),tI 5,tI 6,tI 17,tI 18],Yl,[]⟩
def adB:SS:=⟨47,87,[tP 0 0,tI 1,(4,.own 65),tI 17,tI 18],[(0,fB 1 2 66),(1,.map aK eF),(2,.map aR .bool),(65,.row 50 48 bp),(66,.row 110 40 aR)],[]⟩
def adC:SS:=⟨47,87,[(4,.own 69)],[(0,fB 1 2 70),(1,.map aK eF),(2,.map aR .bool),(69,.row 50 48 bp),(70,.row 110 40 aR)],[]⟩
def adD:SS:=⟨47,87,[tP 0 0,tI 1,(4,.own 67),tI 17,tI 18],Yl,[]⟩
def adE:SS:=⟨47,87,[tP 0 0,tI 1,(4,.own 63),tI 5,tI 17,tI 18,tI 27,tI 28],[(0,fB 1 2 64),(1,.map aK eF),(2,.map aR .bool),(63,.row 50 48 bp),(64,.row 110 40 aR)],[]⟩
def adF:SS:=⟨47,87,[(4,.val (.slice 48 bp))],[(0,fB 1 2 70),(1,.map aK eF),(2,.map aR .bool),(70,.row 110 40 aR)],[]⟩
def UM:bh:=aF G [.tmp 4] 45 [pP 0,vI] Jc 87 adF [0,1,2,70] (.br (Nr ny))
theorem M5:hS UM:=
 cO ⟨[hE 10 [cB 0 [(0,0),(1,1),(2,2),(3,64)] [(55,52)]]],[(7,adA),(14,adB),(15,adC)],[],[(2,⟨adD,fun u2=>Int.toNat u2.2.1+1⟩),(8,⟨adE,fun u6=>Int.toNat u6.2.2.2.2.1+1⟩)],[],[]⟩ (hq UL hz) aJ Tryz.call45 Tryz.func45
def f52(a0:mq):Option cN:=
 some (a0.1,a0.2.1,a0.2.2.1,())
def adG:SS:=⟨10,50,[tP 2 18],[(18,bV aK)],[]⟩
def c52:bh:=aF G [.cell 2 88] 52 [.val bp] [] 50 adG [] (.br (u1 f52))
theorem Ym:hS c52:=
 cO (hR []) hz aJ Tryz.call52 Tryz.func52
def sR:Nat→Ze×Int×Int×Zl×Int×Int×ZF→Option (cL (Ze×Int×Int×ZF) (cL ZF ZaB)):=aL fun rec7 ⟨e,f,g,c,b,a,h,i,j,k,l,m,n,o,p,q,d,r⟩=>if decide (a<b) then(if 0≤a then(if a<(c.length:Int) then((f52 (nth bp c a)).bind fun y8=>if d.length+1≤aH then(rec7 (e,f,g,c,b,bq (a+1),h,i,j,k,l,m,n,o,p,q,aZ aK y8 (nth bp c a) d,r)) else none) else none) else none) else(some (.brk (e,f,g,h,i,j,k,l,m,n,o,p,q,d,r)))
def zL:Nat→Ze×Int×Int×ZF→Option (cL ZF ZaB):=aL fun amC ⟨ac,ab,aa,ad,ae,af,ag,ah,ai,aj,an,ak,al,ao,am⟩=>if decide (aa<ab) then(aI (U:=Ze×Int×Int×ZF) (if 0≤aa then(if aa<(ac.length:Int) then((ny (nth (.int .i64) ac aa) ad ae af ag ah ai aj ak al am).bind fun⟨a,b,c,d,e,f,g,h,i,j,k⟩=>sR (Int.toNat (a.length:Int)+1) (ac,ab,aa,a,(a.length:Int),0,b,c,d,e,f,g,h,an,i,j,ao,k)) else none) else none) fun⟨l,m,n,o,p,q,r,s,t,u,v,w,x,y,z⟩=>amC (l,m,bq (n+1),o,p,q,r,s,t,u,v,w,x,y,z)) else(some (.brk (ad,ae,af,ag,ah,ai,aj,an,ak,al,ao,am)))
def sS(a0:bz)(a1:Zb)(a2:Int)(a3:Int)(a4:Bool)(a5:Zc)(a6:Unit)(a7:Ze)(a8:Zf)(a9:Zd)(a10:Zh):Option ZaB:=
 aI (U:=ZF) (zL (Int.toNat (a7.length:Int)+1) (a7,(a7.length:Int),0,a0,a1,a2,a3,a4,a5,a6,a7,a8,a9,([]:List (cN×mq)),a10)) fun⟨b,c,d,e,f,g,h,i,j,k,a,l⟩=>some (some a,b,c,d,e,f,g,h,i,j,k,l)
def Yn:List (Nat×de):=[(0,fB 2 3 34),(1,.var (.slice 8 (.int .i64)) (.val (.slice 8 (.int .i64)))),(2,.map aK eF),(3,.map aR .bool),(25,.map aK bp),(34,.row 110 40 aR)]
def adH:SS:=⟨31,71,[tP 0 0,(4,.mp 25),(10,.val (.slice 8 (.int .i64))),tI 11,tI 12],Yn,[]⟩
def adI:SS:=⟨31,71,[(4,.mp 25)],[(0,fB 2 3 48),(1,.var (.slice 8 (.int .i64)) (.val (.slice 8 (.int .i64)))),(2,.map aK eF),(3,.map aR .bool),(25,.map aK bp),(48,.row 110 40 aR)],[]⟩
def adJ:SS:=⟨31,71,[tP 0 0,(4,.mp 25),(10,.val (.slice 8 (.int .i64))),tI 11,tI 12],[(0,fB 2 3 47),(1,.var (.slice 8 (.int .i64)) (.val (.slice 8 (.int .i64)))),(2,.map aK eF),(3,.map aR .bool),(25,.map aK bp),(47,.row 110 40 aR)],[]⟩
def adK:SS:=⟨31,71,[tP 0 0,(4,.mp 25),(10,.val (.slice 8 (.int .i64))),tI 11,tI 12,(18,.val (.slice 48 bp)),tI 19,tI 20],Yn,[]⟩
def adL:SS:=⟨31,71,[(3,.val (.map aK bp))],[(0,fB 2 3 48),(1,.var (.slice 8 (.int .i64)) (.val (.slice 8 (.int .i64)))),(2,.map aK eF),(3,.map aR .bool),(48,.row 110 40 aR)],[]⟩
def UN:bh:=aF G [.tmp 3] 51 [pP 0,pP 1] [(0,fB 2 3 4),(1,.var (.slice 8 (.int .i64)) (.val (.slice 8 (.int .i64)))),(2,.map aK eF),(3,.map aR .bool),(4,.row 110 40 aR)] 71 adL [0,1,2,3,48] (.br (Nr sS))
theorem UP:hS UN:=
 cO ⟨[hE 5 [cB 0 [(0,0),(1,2),(2,3),(3,47)] [(70,34)]],hA 8 1],[(10,adH),(11,adI)],[],[(3,⟨adJ,fun u2=>Int.toNat u2.2.1+1⟩),(6,⟨adK,fun u6=>Int.toNat u6.2.2.2.2.1+1⟩)],[],[]⟩ (hq M5 (hq Ym hz)) aJ Tryz.call51 Tryz.func51
def sT:Nat→Int×Int×Ze×Int×Int×Ze×Ze×Zn→Option (cL (Int×Int×Ze×Ze×Zn) (Bool×Ze×bz×Zb×Int×Int×Bool×Zc×Unit×Zg×Zg×Zh×Zf×Zd)):=aL fun am5 ⟨e,f,c,b,a,g,d,h,i,j,k,l,m,n,o,p,q⟩=>if decide (a<b) then(if 0≤a then(if a<(c.length:Int) then(if 0≤(nth (.int .i64) c a) then(if(nth (.int .i64) c a)<(d.length:Int) then(am5 (e,f,c,b,bq (a+1),g,List.set d (Int.toNat (nth (.int .i64) c a)) a,h,i,j,k,l,m,n,o,p,q)) else none) else none) else none) else none) else(some (.brk (e,f,g,d,h,i,j,k,l,m,n,o,p,q)))
def fb(a0:bz)(a1:Ze)(a2:Int)(a3:Int)(a4:Int):Option (Bool×Ze×bz×Zb×Int×Int×Bool×Zc×Unit×Zg×Zg×Zh×Zf×Zd):=
 (f50 a0.1 a1 a2).bind fun y1=>if !y1 then none else(if 0≤(a0.1.2.1.length:Int) then(if(a0.1.2.1.length:Int)≤(a0.1.2.1.length:Int) then(if(a0.1.2.1.length:Int)*(8:Int)≤(aH:Int) then((rU a0 a2 a4 true).bind fun⟨a,b,c,d,e,f,g,h,i,j⟩=>aI (U:=Int×Int×Ze×Ze×Zn) (sT (Int.toNat (a0.1.2.1.length:Int)+1) (a2,a3,a0.1.2.1,(a0.1.2.1.length:Int),0,a1,List.replicate (Int.toNat (a0.1.2.1.length:Int)) (0:Int),a,b,c,d,e,f,g,h,i,j)) fun⟨k,l,w,x,m,n,o,p,q,r,s,t,u,v⟩=>(Ez k l m n o p q r s t u v).bind fun⟨ai,aj,ak,al,am,an,ao,ap,aq,ar,y,z,aa,ab,ac,ad,ae,af,ag,ah⟩=>(sS y z aa ab ac ad ae w af ag ah).bind fun⟨av,_,_,_,_,_,_,_,au,_,_,_⟩=>(sS ai aj ak al am an ao au ap aq ar).bind fun⟨a8,aw,ax,ay,az,a5,a6,a7,_,ba,bb,a9⟩=>some (true,x,aw,ax,ay,az,a5,a6,a7,av,a8,a9,ba,bb)) else none) else none) else none)
def Yo:List (Nat×de):=[(22,.var (.slice 8 (.int .i64)) (.val (.slice 8 (.int .i64)))),(41,.row 3 8 (.int .i64)),(45,fB 88 89 90),(47,.var vJ (.cons (.own 41) (.cons .dX (.cons .dX (.cons (pP 45) .nil))))),(88,.map aK eF),(89,.map aR .bool),(90,.row 110 40 aR)]
def adM:SS:=⟨72,112,[tI 2,tI 3,tP 6 22,tP 10 47],Yo,[]⟩
def adN:SS:=⟨72,112,[tI 2,tI 3,tP 6 22,tP 10 47,(34,.val (.slice 8 (.int .i64))),tI 35,tI 36],Yo,[]⟩
def adO:SS:=⟨72,112,[tP 10 47,(11,vB)],[(41,.row 3 8 (.int .i64)),(45,fB 88 89 82),(47,.var vJ (.cons (.own 41) (.cons (.val (.map aK bp)) (.cons (.val (.map aK bp)) (.cons (pP 45) .nil))))),(82,.row 110 40 aR),(88,.map aK eF),(89,.map aR .bool)],[]⟩
def UQ:bh:=aF G [.tmp 10,.tmp 11] 22 [.val fI,.val (.slice 8 (.int .i64)),vI,vI,vI] [] 112 adO [41,45,47,82,88,89] (.br (u5 fb))
theorem pQ:hS UQ:=
 cO ⟨[hA 1 0,(2,⟨[],[],[],none,[(0,9999)],[],[]⟩),hE 3 [cB 1 [] [(75,45),(76,88),(77,89),(78,90)]],hE 10 [cB 2 [(0,45),(1,88),(2,89),(3,90)] [(23,75),(32,91),(33,92),(36,93)],cB 3 [(0,75),(1,22),(2,91),(3,92),(4,93)] [(48,76)],cB 3 [(0,45),(1,22),(2,88),(3,89),(4,90)] [(48,82)]]],[(9,adM)],[],[(5,⟨adN,fun u4=>Int.toNat u4.2.2.2.1+1⟩)],[],[]⟩ (hq x50 (hq Kv (hq TI (hq UP hz)))) aJ Tryz.call22 Tryz.func22
def f41(a0:cN)(a1:cN):ZV:=
 (f30 a0.1 a1.1).bind fun y1=>(f30 a0.2.1 a1.2.1).bind fun y2=>(f30 a0.2.2.1 a1.2.2.1).bind fun y3=>(f29 [y1,y2,y3]).bind fun y4=>some y4
def adP:SS:=⟨22,62,[tI 4],[],[]⟩
def c41:bh:=aF G [.tmp 4] 41 [.val aK,.val aK] [] 62 adP [] (.br (u2 f41))
theorem x41:hS c41:=
 cO (hR [hE 1 [cA 0,cA 0,cA 0,cA 1]]) (hq x30 (hq x29 hz)) aJ Tryz.call41 Tryz.func41
def f75(a0:mq)(a1:mq):ZV:=
 (f52 a0).bind fun y1=>(f52 a1).bind fun y2=>(f41 y1 y2).bind fun y3=>some y3
def adQ:SS:=⟨10,50,[tI 4],[],[]⟩
def c75:bh:=aF G [.tmp 4] 75 [.val bp,.val bp] [] 50 adQ [] (.br (u2 f75))
theorem x75:hS c75:=
 cO (hR [hE 1 [cA 0,cA 0,cA 1]]) (hq Ym (hq x41 hz)) aJ Tryz.call75 Tryz.func75
def A7(a0:Zl):Ct:=
 kU (fun x_ y_=>f75 x_ y_) a0
def adR:SS:=⟨14,54,[],[(0,.row 50 48 bp)],[]⟩
def UR:bh:=aF G [] 74 [.own 0,.func 75 .nil .nil] [(0,.row 50 48 bp)] 54 adR [0] (.br (u1 A7))
theorem US:hS UR:=
 ⟨fun d y h=>cast (by kernel_rfl) (LF Ga (gl:=gl) trivial (tied.isAgg (t:=50) rfl) (t:=bp) (tied.size (t:=50) rfl) Tryz.call74 Tryz.call75 rfl (cs:=Fj (x8 y0 [.own 0,.func 75 .nil .nil] d)) (by kernel_rfl) (by kernel_rfl) (e:=50) (bs:=48) (k:=50) (m:=54) (by decide) (c:=fun x_ y_=>f75 x_ y_) (show kU _ d.1=some y from h) fun x_ y_ r hr=>cast (by kernel_rfl) (x75.1 (x_,y_,()) r hr)),fun _ _ h=>h.elim⟩
def M6:Nat→Zg×List (cN×mq)×Zl→Ct:=aL fun rec2 ⟨c,a,b⟩=>if List.isEmpty a=true then((A7 b).bind fun y3=>some y3) else ux a fun x4 l5=>Option.bind (α:=Bool) (if !(bT aK x4.1 (aX c)) then(some true) else((f73 x4.2.2.2.2.1 (aP aK bp x4.1 (aX c)).2.2.2.1).bind fun y6=>some (!y6))) fun v7=>if v7=true then(if(List.length b+List.length [x4.2])*48≤aH then(rec2 (c,l5,b++[x4.2])) else none) else(rec2 (c,l5,b))
def f54(a0:Zg)(a1:Zg):Ct:=
 M6 (List.length (aX a0)+1) (a1,aX a0,([]:Zl))
def adS:SS:=⟨39,79,[(1,.val (.map aK bp)),(4,.own 56),tP 10 26],[(26,.kB aK bp),(56,.row 50 48 bp)],[]⟩
def Yp:SS:=⟨39,79,[(4,.val (.slice 48 bp))],[],[]⟩
def c54:bh:=aF G [.tmp 4] 54 [.val (.map aK bp),.val (.map aK bp)] [] 79 Yp [] (.br (u2 f54))
theorem x54:hS c54:=
 cO ⟨[(1,⟨[.yn 4 55 50 48 bp],[],[],none,[],[],[]⟩),hD 5 31 [cA 1],hE 7 [cB 0 [(0,56)] []]],[],[],[(2,⟨adS,fun u1=>List.length u1.2.1+1⟩)],[],[]⟩ (hq US (hq x73 hz)) aJ Tryz.call54 Tryz.func54
end Go.Proofs.YtpmlkhjpbjnagaaGreat
