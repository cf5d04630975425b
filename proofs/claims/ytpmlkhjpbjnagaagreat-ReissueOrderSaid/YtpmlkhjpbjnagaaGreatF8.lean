/- part -/
import Derived.Test.YtpmlkhjpbjnagaaGreatUL
import Derived.Test.YtpmlkhjpbjnagaaGreatY1
import Derived.Test.YtpmlkhjpbjnagaaGreatA5
noncomputable section
namespace Go.Proofs.YtpmlkhjpbjnagaaGreat
open Go.Ax
def A1(a0:Int)(a1:Int)(a2:Int)(a3:bz)(a4:Zb)(a5:Int)(a6:Int)(a7:Bool)(a8:Zc)(a9:Unit)(a10:Zf)(a11:Zd)(a12:Zh):Option (Bool×bz×Zb×Int×Int×Bool×Zc×Unit×Zf×Zd×k9×Zh):=
 aI (U:=Int×Int×Int×bz×Zb×Int×Int×Bool×Zc×Unit×Zf×Zd×Zh×Int×BX) (if(aP (.int .i64) .bool a0 (aX a8))=true then(if !decide (a2=(0:Int)) then(bX (some (false,a3,a4,a5,a6,a7,a8,a9,a10,a11,(0,0,0,([]:Ze),()),a12))) else((rR a0 a1 a3 a4 a5 a6 a7 a8 a9 a10 a11 a12).bind fun⟨a,b,c,d,e,f,g,h,i,j,k⟩=>if !a then(bX (some (false,b,c,d,e,f,g,h,i,j,(0,0,0,([]:Ze),()),k))) else(some (.brk (a0,a1,a2,b,c,d,e,f,g,h,i,j,k,0,0,0))))) else(some (.brk (a0,a1,a2,a3,a4,a5,a6,a7,a8,a9,a10,a11,a12,0,0,0)))) fun⟨l,m,n,o,p,q,r,s,t,u,v,w,x,_,_,_⟩=>(dD (l,m,n,()) o p q r s t u v w x).bind fun⟨z,aa,ab,ac,ad,ae,af,ag,ah,y,ai⟩=>some (y.2.2.2.1,z,aa,ab,ac,ad,ae,af,ag,ah,y.1,ai)
def adk:SS:=⟨39,79,[tP 0 0,tI 1,tI 2,tI 3,tP 8 24],[(0,fB 1 2 3),(1,.map aJ eE),(2,.map aR .bool),(3,.row 110 40 aR),(24,.var br (.cons vI (.cons vI (.cons vI (.cons .bn .nil)))))],[]⟩
def adl:SS:=⟨39,79,[tP 8 24,(9,vB)],[(0,fB 1 2 55),(1,.map aJ eE),(2,.map aR .bool),(24,bV br),(55,.row 110 40 aR)],[]⟩
def Uk:aZ:=aG G [.cell 8 50,.tmp 9] 68 [pP 0,vI,vI,vI] IU 79 adl [0,1,2,55] (.bq (Kb A1))
theorem Ul:hS Uk:=
 cO ⟨[hE 1 [cB 0 [(0,0),(1,1),(2,2),(3,3)] []],hE 3 [cB 1 [(0,0),(1,1),(2,2),(3,3)] [(93,50)]]],[(3,adk)],[],[],[],[]⟩ (hq Ep (hq vD hz)) aK Tryz.call68 Tryz.func68
def iI:Nat→Int×Int×Int×Int×Int×Int×Zt→Option (cJ (Int×Int×Int×Zt) (cJ Zt (Zn×Zm))):=aL fun rec7 ⟨p,o,ab,ac,n,m,q,r,s,t,u,v,w,x,y,aa,z⟩=>if decide (m<n) then((A1 o p m q r s t u v w x y z).bind fun⟨a,c,d,e,f,g,h,i,j,k,b,l⟩=>if a=true then(if(List.length aa+List.length [b])*48≤aH then(rec7 (p,o,ab,ac,n,bp (m+1),c,d,e,f,g,h,i,j,k,aa++[b],l)) else none) else(rec7 (p,o,ab,ac,n,bp (m+1),c,d,e,f,g,h,i,j,k,aa,l))) else(some (.brk (p,ab,ac,q,r,s,t,u,v,w,x,y,aa,z)))
def sL:Nat→Int×Int×Int×Zt→Option (cJ Zt (Zn×Zm)):=aL fun al4 ⟨ah,af,ae,ai,aj,ak,al,am,ag,an,ao,ap,aq,ar⟩=>if decide (ae<af) then(aI (U:=Int×Int×Int×Zt) (aI (U:=Int×Int×Int×Int×Int×Zt) (if(aP (.int .i64) .bool ae (aX ag))=true then(some (.brk (ah,ae,1,af,ae,ai,aj,ak,al,am,ag,an,ao,ap,aq,ar))) else(some (.brk (ah,ae,4,af,ae,ai,aj,ak,al,am,ag,an,ao,ap,aq,ar)))) fun⟨b,c,a,d,e,f,g,h,i,j,k,l,m,n,o,p⟩=>iI (Int.toNat a+1) (b,c,d,e,a,0,f,g,h,i,j,k,l,m,n,o,p)) fun⟨q,r,s,t,u,v,w,x,y,z,aa,ab,ac,ad⟩=>al4 (q,r,bp (s+1),t,u,v,w,x,y,z,aa,ab,ac,ad)) else(some (.brk (ai,aj,ak,al,am,ag,an,ao,ap,aq,ar)))
def nu(a0:Int)(a1:bz)(a2:Zb)(a3:Int)(a4:Int)(a5:Bool)(a6:Zc)(a7:Unit)(a8:Zf)(a9:Zd)(a10:Zh):Option (Zn×Zm):=
 aI (U:=Zt) (sL (Int.toNat (a1.1.1.2.2.1.length:Int)+1) (a0,(a1.1.1.2.2.1.length:Int),0,a1,a2,a3,a4,a5,a6,a7,a8,a9,([]:Zn),a10)) fun⟨b,c,d,e,f,g,h,i,j,a,k⟩=>some (a,b,c,d,e,f,g,h,i,j,k)
def Yi:List (Nat×de):=[(0,fB 1 2 68),(1,.map aJ eE),(2,.map aR .bool),(67,.row 50 48 br),(68,.row 110 40 aR)]
def adm:SS:=⟨47,87,[tP 0 0,tI 1,(4,.own 67),tI 5,tI 6,tI 17,tI 18],Yi,[]⟩
def adn:SS:=⟨47,87,[tP 0 0,tI 1,(4,.own 65),tI 17,tI 18],[(0,fB 1 2 66),(1,.map aJ eE),(2,.map aR .bool),(65,.row 50 48 br),(66,.row 110 40 aR)],[]⟩
def ado:SS:=⟨47,87,[(4,.own 69)],[(0,fB 1 2 70),(1,.map aJ eE),(2,.map aR .bool),(69,.row 50 48 br),(70,.row 110 40 aR)],[]⟩
def adp:SS:=⟨47,87,[tP 0 0,tI 1,(4,.own 67),tI 17,tI 18],Yi,[]⟩
def adq:SS:=⟨47,87,[tP 0 0,tI 1,(4,.own 63),tI 5,tI 17,tI 18,tI 27,tI 28],[(0,fB 1 2 64),(1,.map aJ eE),(2,.map aR .bool),(63,.row 50 48 br),(64,.row 110 40 aR)],[]⟩
def adr:SS:=⟨47,87,[(4,.val (.slice 48 br))],[(0,fB 1 2 70),(1,.map aJ eE),(2,.map aR .bool),(70,.row 110 40 aR)],[]⟩
def Um:aZ:=aG G [.tmp 4] 45 [pP 0,vI] IU 87 adr [0,1,2,70] (.bq (MW nu))
theorem Un:hS Um:=
 cO ⟨[hE 10 [cB 0 [(0,0),(1,1),(2,2),(3,64)] [(55,52)]]],[(7,adm),(14,adn),(15,ado)],[],[(2,⟨adp,fun u2=>Int.toNat u2.2.1+1⟩),(8,⟨adq,fun u6=>Int.toNat u6.2.2.2.2.1+1⟩)],[],[]⟩ (hq Ul hz) aK Tryz.call45 Tryz.func45
def f52(a0:k9):Option cL:=
 some (a0.1,a0.2.1,a0.2.2.1,())
def ads:SS:=⟨10,50,[tP 2 18],[(18,bV aJ)],[]⟩
def c52:aZ:=aG G [.cell 2 88] 52 [.val br] [] 50 ads [] (.bq (u1 f52))
theorem Yj:hS c52:=
 cO (hR []) hz aK Tryz.call52 Tryz.func52
def sM:Nat→Ze×Int×Int×Zn×Int×Int×ZF→Option (cJ (Ze×Int×Int×ZF) (cJ ZF ZaC)):=aL fun rec7 ⟨e,f,g,c,b,a,h,i,j,k,l,m,n,o,p,q,d,r⟩=>if decide (a<b) then(if 0≤a then(if a<(c.length:Int) then((f52 (nth br c a)).bind fun y8=>if d.length+1≤aH then(rec7 (e,f,g,c,b,bp (a+1),h,i,j,k,l,m,n,o,p,q,aY aJ y8 (nth br c a) d,r)) else none) else none) else none) else(some (.brk (e,f,g,h,i,j,k,l,m,n,o,p,q,d,r)))
def zz:Nat→Ze×Int×Int×ZF→Option (cJ ZF ZaC):=aL fun al4 ⟨ac,ab,aa,ad,ae,af,ag,ah,ai,aj,an,ak,al,ao,am⟩=>if decide (aa<ab) then(aI (U:=Ze×Int×Int×ZF) (if 0≤aa then(if aa<(ac.length:Int) then((nu (nth (.int .i64) ac aa) ad ae af ag ah ai aj ak al am).bind fun⟨a,b,c,d,e,f,g,h,i,j,k⟩=>sM (Int.toNat (a.length:Int)+1) (ac,ab,aa,a,(a.length:Int),0,b,c,d,e,f,g,h,an,i,j,ao,k)) else none) else none) fun⟨l,m,n,o,p,q,r,s,t,u,v,w,x,y,z⟩=>al4 (l,m,bp (n+1),o,p,q,r,s,t,u,v,w,x,y,z)) else(some (.brk (ad,ae,af,ag,ah,ai,aj,an,ak,al,ao,am)))
def sN(a0:bz)(a1:Zb)(a2:Int)(a3:Int)(a4:Bool)(a5:Zc)(a6:Unit)(a7:Ze)(a8:Zf)(a9:Zd)(a10:Zh):Option ZaC:=
 aI (U:=ZF) (zz (Int.toNat (a7.length:Int)+1) (a7,(a7.length:Int),0,a0,a1,a2,a3,a4,a5,a6,a7,a8,a9,([]:List (cL×k9)),a10)) fun⟨b,c,d,e,f,g,h,i,j,k,a,l⟩=>some (some a,b,c,d,e,f,g,h,i,j,k,l)
def Yk:List (Nat×de):=[(0,fB 2 3 34),(1,.var (.slice 8 (.int .i64)) (.val (.slice 8 (.int .i64)))),(2,.map aJ eE),(3,.map aR .bool),(25,.map aJ br),(34,.row 110 40 aR)]
def adt:SS:=⟨31,71,[tP 0 0,(4,.mp 25),(10,.val (.slice 8 (.int .i64))),tI 11,tI 12],Yk,[]⟩
def adu:SS:=⟨31,71,[(4,.mp 25)],[(0,fB 2 3 48),(1,.var (.slice 8 (.int .i64)) (.val (.slice 8 (.int .i64)))),(2,.map aJ eE),(3,.map aR .bool),(25,.map aJ br),(48,.row 110 40 aR)],[]⟩
def adv:SS:=⟨31,71,[tP 0 0,(4,.mp 25),(10,.val (.slice 8 (.int .i64))),tI 11,tI 12],[(0,fB 2 3 47),(1,.var (.slice 8 (.int .i64)) (.val (.slice 8 (.int .i64)))),(2,.map aJ eE),(3,.map aR .bool),(25,.map aJ br),(47,.row 110 40 aR)],[]⟩
def adw:SS:=⟨31,71,[tP 0 0,(4,.mp 25),(10,.val (.slice 8 (.int .i64))),tI 11,tI 12,(18,.val (.slice 48 br)),tI 19,tI 20],Yk,[]⟩
def adx:SS:=⟨31,71,[(3,.val (.map aJ br))],[(0,fB 2 3 48),(1,.var (.slice 8 (.int .i64)) (.val (.slice 8 (.int .i64)))),(2,.map aJ eE),(3,.map aR .bool),(48,.row 110 40 aR)],[]⟩
def Uq:aZ:=aG G [.tmp 3] 51 [pP 0,pP 1] [(0,fB 2 3 4),(1,.var (.slice 8 (.int .i64)) (.val (.slice 8 (.int .i64)))),(2,.map aJ eE),(3,.map aR .bool),(4,.row 110 40 aR)] 71 adx [0,1,2,3,48] (.bq (MW sN))
theorem Ur:hS Uq:=
 cO ⟨[hE 5 [cB 0 [(0,0),(1,2),(2,3),(3,47)] [(70,34)]],hA 8 1],[(10,adt),(11,adu)],[],[(3,⟨adv,fun u2=>Int.toNat u2.2.1+1⟩),(6,⟨adw,fun u6=>Int.toNat u6.2.2.2.2.1+1⟩)],[],[]⟩ (hq Un (hq Yj hz)) aK Tryz.call51 Tryz.func51
def sO:Nat→Int×Int×Ze×Int×Int×Ze×Ze×Zm→Option (cJ (Int×Int×Ze×Ze×Zm) (Bool×Ze×bz×Zb×Int×Int×Bool×Zc×Unit×Zg×Zg×Zh×Zf×Zd)):=aL fun amx ⟨e,f,c,b,a,g,d,h,i,j,k,l,m,n,o,p,q⟩=>if decide (a<b) then(if 0≤a then(if a<(c.length:Int) then(if 0≤(nth (.int .i64) c a) then(if(nth (.int .i64) c a)<(d.length:Int) then(amx (e,f,c,b,bp (a+1),g,List.set d (Int.toNat (nth (.int .i64) c a)) a,h,i,j,k,l,m,n,o,p,q)) else none) else none) else none) else none) else(some (.brk (e,f,g,d,h,i,j,k,l,m,n,o,p,q)))
def fv(a0:bz)(a1:Ze)(a2:Int)(a3:Int)(a4:Int):Option (Bool×Ze×bz×Zb×Int×Int×Bool×Zc×Unit×Zg×Zg×Zh×Zf×Zd):=
 (f50 a0.1 a1 a2).bind fun y1=>if !y1 then none else(if 0≤(a0.1.2.1.length:Int) then(if(a0.1.2.1.length:Int)≤(a0.1.2.1.length:Int) then(if(a0.1.2.1.length:Int)*(8:Int)≤(aH:Int) then((ph a0 a2 a4 true).bind fun⟨a,b,c,d,e,f,g,h,i,j⟩=>aI (U:=Int×Int×Ze×Ze×Zm) (sO (Int.toNat (a0.1.2.1.length:Int)+1) (a2,a3,a0.1.2.1,(a0.1.2.1.length:Int),0,a1,List.replicate (Int.toNat (a0.1.2.1.length:Int)) (0:Int),a,b,c,d,e,f,g,h,i,j)) fun⟨k,l,w,x,m,n,o,p,q,r,s,t,u,v⟩=>(Eo k l m n o p q r s t u v).bind fun⟨ai,aj,ak,al,am,an,ao,ap,aq,ar,y,z,aa,ab,ac,ad,ae,af,ag,ah⟩=>(sN y z aa ab ac ad ae w af ag ah).bind fun⟨av,_,_,_,_,_,_,_,au,_,_,_⟩=>(sN ai aj ak al am an ao au ap aq ar).bind fun⟨a8,aw,ax,ay,az,a5,a6,a7,_,ba,bb,a9⟩=>some (true,x,aw,ax,ay,az,a5,a6,a7,av,a8,a9,ba,bb)) else none) else none) else none)
def Yl:List (Nat×de):=[(22,.var (.slice 8 (.int .i64)) (.val (.slice 8 (.int .i64)))),(41,.row 3 8 (.int .i64)),(45,fB 88 89 90),(47,.var vC (.cons (.own 41) (.cons .dV (.cons .dV (.cons (pP 45) .nil))))),(88,.map aJ eE),(89,.map aR .bool),(90,.row 110 40 aR)]
def ady:SS:=⟨72,112,[tI 2,tI 3,tP 6 22,tP 10 47],Yl,[]⟩
def adz:SS:=⟨72,112,[tI 2,tI 3,tP 6 22,tP 10 47,(34,.val (.slice 8 (.int .i64))),tI 35,tI 36],Yl,[]⟩
def adA:SS:=⟨72,112,[tP 10 47,(11,vB)],[(41,.row 3 8 (.int .i64)),(45,fB 88 89 82),(47,.var vC (.cons (.own 41) (.cons (.val (.map aJ br)) (.cons (.val (.map aJ br)) (.cons (pP 45) .nil))))),(82,.row 110 40 aR),(88,.map aJ eE),(89,.map aR .bool)],[]⟩
def Us:aZ:=aG G [.tmp 10,.tmp 11] 22 [.val fF,.val (.slice 8 (.int .i64)),vI,vI,vI] [] 112 adA [41,45,47,82,88,89] (.bq (u5 fv))
theorem pN:hS Us:=
 cO ⟨[hA 1 0,(2,⟨[],[],[],none,[(0,9999)],[],[]⟩),hE 3 [cB 1 [] [(75,45),(76,88),(77,89),(78,90)]],hE 10 [cB 2 [(0,45),(1,88),(2,89),(3,90)] [(23,75),(32,91),(33,92),(36,93)],cB 3 [(0,75),(1,22),(2,91),(3,92),(4,93)] [(48,76)],cB 3 [(0,45),(1,22),(2,88),(3,89),(4,90)] [(48,82)]]],[(9,ady)],[],[(5,⟨adz,fun u4=>Int.toNat u4.2.2.2.1+1⟩)],[],[]⟩ (hq x50 (hq Kg (hq Te (hq Ur hz)))) aK Tryz.call22 Tryz.func22
def f41(a0:cL)(a1:cL):ZU:=
 (f30 a0.1 a1.1).bind fun y1=>(f30 a0.2.1 a1.2.1).bind fun y2=>(f30 a0.2.2.1 a1.2.2.1).bind fun y3=>(f29 [y1,y2,y3]).bind fun y4=>some y4
def adB:SS:=⟨22,62,[tI 4],[],[]⟩
def c41:aZ:=aG G [.tmp 4] 41 [.val aJ,.val aJ] [] 62 adB [] (.bq (u2 f41))
theorem x41:hS c41:=
 cO (hR [hE 1 [cA 0,cA 0,cA 0,cA 1]]) (hq x30 (hq x29 hz)) aK Tryz.call41 Tryz.func41
def f75(a0:k9)(a1:k9):ZU:=
 (f52 a0).bind fun y1=>(f52 a1).bind fun y2=>(f41 y1 y2).bind fun y3=>some y3
def adC:SS:=⟨10,50,[tI 4],[],[]⟩
def c75:aZ:=aG G [.tmp 4] 75 [.val br,.val br] [] 50 adC [] (.bq (u2 f75))
theorem x75:hS c75:=
 cO (hR [hE 1 [cA 0,cA 0,cA 1]]) (hq Yj (hq x41 hz)) aK Tryz.call75 Tryz.func75
def A2(a0:Zn):Ec:=
 kN (fun x_ y_=>f75 x_ y_) a0
def adD:SS:=⟨14,54,[],[(0,.row 50 48 br)],[]⟩
def Ut:aZ:=aG G [] 74 [.own 0,.func 75 .nil .nil] [(0,.row 50 48 br)] 54 adD [0] (.bq (u1 A2))
theorem Uv:hS Ut:=
 ⟨fun d y h=>cast (by kernel_rfl) (Lj FX (gl:=gl) trivial (tied.isAgg (t:=50) rfl) (t:=br) (tied.size (t:=50) rfl) Tryz.call74 Tryz.call75 rfl (cs:=EY (xV y0 [.own 0,.func 75 .nil .nil] d)) (by kernel_rfl) (by kernel_rfl) (e:=50) (bs:=48) (k:=50) (m:=54) (by decide) (c:=fun x_ y_=>f75 x_ y_) (show kN _ d.1=some y from h) fun x_ y_ r hr=>cast (by kernel_rfl) (x75.1 (x_,y_,()) r hr)),fun _ _ h=>h.elim⟩
def Mz:Nat→Zg×List (cL×k9)×Zn→Ec:=aL fun rec2 ⟨c,a,b⟩=>if List.isEmpty a=true then((A2 b).bind fun y3=>some y3) else uq a fun x4 l5=>Option.bind (α:=Bool) (if !(bT aJ x4.1 (aX c)) then(some true) else((f73 x4.2.2.2.2.1 (aP aJ br x4.1 (aX c)).2.2.2.1).bind fun y6=>some (!y6))) fun v7=>if v7=true then(if(List.length b+List.length [x4.2])*48≤aH then(rec2 (c,l5,b++[x4.2])) else none) else(rec2 (c,l5,b))
def f54(a0:Zg)(a1:Zg):Ec:=
 Mz (List.length (aX a0)+1) (a1,aX a0,([]:Zn))
def adE:SS:=⟨39,79,[(1,.val (.map aJ br)),(4,.own 56),tP 10 26],[(26,.ky aJ br),(56,.row 50 48 br)],[]⟩
def Ym:SS:=⟨39,79,[(4,.val (.slice 48 br))],[],[]⟩
def c54:aZ:=aG G [.tmp 4] 54 [.val (.map aJ br),.val (.map aJ br)] [] 79 Ym [] (.bq (u2 f54))
theorem x54:hS c54:=
 cO ⟨[(1,⟨[.yg 4 55 50 48 br],[],[],none,[],[],[]⟩),hD 5 31 [cA 1],hE 7 [cB 0 [(0,56)] []]],[],[],[(2,⟨adE,fun u1=>List.length u1.2.1+1⟩)],[],[]⟩ (hq Uv (hq x73 hz)) aK Tryz.call54 Tryz.func54
end Go.Proofs.YtpmlkhjpbjnagaaGreat
