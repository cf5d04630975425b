/- part -/
import Derived.Test.YtkhfnbfpgcjllaaGreatDoorF5
noncomputable section
namespace Go.Proofs.YtkhfnbfpgcjllaaGreatDoor
open Go.Ax
def pX:Nat→Int×Int×Int×Zd→Option (dN (Int×Int×Zd) (Bool×Zd)):=aL fun aoP ⟨q,o,p,r⟩=>aG (U:=Int×Int×Int×Int×Zd) (Option.bind (α:=Bool) (if(decide (o≤(aQ ((aQ ((2:Int)*p))+(1:Int)))))=true then(some true) else(some (decide ((aQ ((aQ ((2:Int)*p))+(1:Int)))<(0:Int))))) fun v5=>if v5=true then(cN (some (.aS (q,p,r)))) else(some (.aS (q,o,p,aQ ((aQ ((2:Int)*p))+(1:Int)),r)))) fun⟨d,b,e,a,c⟩=>aG (U:=Int×Int×Int×Int×Zd) (if(decide ((aQ (a+1))<b))=true then(Option.bind (px (aQ (a+1)) a c) fun⟨f,g⟩=>if f=true then(some (.aS (d,b,e,aQ (a+1),g))) else(some (.aS (d,b,e,a,g)))) else(some (.aS (d,b,e,a,c)))) fun⟨k,l,i,h,j⟩=>Option.bind (px h i j) fun⟨m,n⟩=>if(!m)=true then(some (.aS (k,i,n))) else(Option.bind (nW i h n) fun y9=>aoP (k,l,h,y9))
def yl(a0:Int)(a1:Int)(a2:Zd):Option (Bool×Zd):=
 aG (U:=Int×Int×Zd) (pX dA (a0,a1,a0,a2)) fun⟨a,b,c⟩=>some (decide (a<b),c)
def ag6:SS:=⟨48,88,[(0,.iface 281 (pP 0)),tI 1,tI 2,tI 7,tI 8],[(0,.var mF (.cons (.own 1) .nil)),(1,.row 3 8 (.int .i64))],[]⟩
def ag7:SS:=⟨48,88,[(0,.iface 281 (pP 0)),tI 1,tI 2,tI 7,tI 9],[(0,.var mF (.cons (.own 1) .nil)),(1,.row 3 8 (.int .i64))],[]⟩
def ag8:SS:=⟨48,88,[tI 1,tI 7],[(0,.var mF (.cons (.own 1) .nil)),(1,.row 3 8 (.int .i64))],[]⟩
def ag9:SS:=⟨48,88,[(0,.iface 281 (pP 0)),tI 1,tI 2,tI 7],[(0,.var mF (.cons (.own 1) .nil)),(1,.row 3 8 (.int .i64))],[]⟩
def aha:SS:=⟨48,88,[(6,vB)],[(0,.var mF (.cons (.own 1) .nil)),(1,.row 3 8 (.int .i64))],[]⟩
def RU:bH:=aI G [.tmp 6] 230 [.iface 281 (pP 0),vI,vI] [(0,.var mF (.cons (.own 1) .nil)),(1,.row 3 8 (.int .i64))] 88 aha [0,1] (.bZ (u3 yl))
theorem RW:hS RU:=
 cO ⟨[hD 3 21 [],hE 6 [cB 0 [(0,1)] []],hE 8 [cB 0 [(0,1)] []],hE 9 [cB 1 [(0,1)] []]],[(4,ag6),(8,ag7),(11,ag8)],[],[(2,⟨ag9,fun _=>dA⟩)],[],[]⟩ (hq Jv (hq Ct hz)) aJ Tryz.call230 Tryz.func230
def ym(a0:Zd):Option (Int×Zd):=
 if 0≤(aQ ((List.length a0:Int) -(1:Int))) then(if(aQ ((List.length a0:Int) -(1:Int)))<(List.length a0:Int) then(if 0≤(aQ ((List.length a0:Int) -(1:Int))) then(if(aQ ((List.length a0:Int) -(1:Int)))≤(List.length a0:Int) then(some (nth (.int .i64) a0 (aQ ((List.length a0:Int) -(1:Int))),List.take ((Int.toNat (aQ ((List.length a0:Int) -(1:Int)))) -0) a0)) else none) else none) else none) else none
def ahb:SS:=⟨32,72,[(2,.iface 3 vI)],[(0,.var mF (.cons (.own 48) .nil)),(48,.row 3 8 (.int .i64))],[]⟩
def RX:bH:=aI G [.tmp 2] 266 [pP 0] [(0,.var mF (.cons (.own 1) .nil)),(1,.row 3 8 (.int .i64))] 72 ahb [0,48] (.bZ (u1 ym))
theorem RY:hS RX:=
 cO (hR [(2,⟨[],[],[],none,[],[],[.tM 0 [.d6 0] 48]⟩)]) hz aJ Tryz.call266 Tryz.func266
def pY(a0:Zd):Option (Int×Zd):=
 Option.bind (uH a0) fun⟨a,b⟩=>Option.bind (nW (0:Int) (aQ (a -(1:Int))) b) fun y2=>Option.bind (yl (0:Int) (aQ (a -(1:Int))) y2) fun⟨_,c⟩=>Option.bind (ym c) fun⟨d,e⟩=>some (d,e)
def ahc:SS:=⟨15,55,[(2,.iface 3 vI)],[(0,.var mF (.cons (.own 30) .nil)),(30,.row 3 8 (.int .i64))],[]⟩
def JZ:bH:=aI G [.tmp 2] 158 [.iface 281 (pP 0)] [(0,.var mF (.cons (.own 1) .nil)),(1,.row 3 8 (.int .i64))] 55 ahc [0,30] (.bZ (u1 pY))
theorem RZ:hS JZ:=
 cO (hR [hE 1 [cB 0 [(0,1)] []],hE 2 [cB 1 [(0,1)] []],hE 3 [cB 2 [(0,0),(1,1)] []],hE 4 [cB 3 [(0,0),(1,1)] [(48,30)]]]) (hq Ju (hq Ct (hq RW (hq RY hz)))) aJ Tryz.call158 Tryz.func158
def iv(_l_:Nat)(_Y_:ZO):Nat→Nat×gV×vY×Int×Int×UD→Option (dN (Nat×vY×UD) R7):=aL fun api ⟨f,d,g,b,a,h,i,j,k,c,e⟩=>if(decide (a<b))=true then(if 0≤a then(if a<(List.length c:Int) then(if 0≤a then(if a<(List.length (List.set c (Int.toNat a) (List.length (bA (aO (.int .i64) (.map (.int .i64) .bool) a (bA d.2.1))):Int)):Int) then(if(decide ((nth (.int .i64) (List.set c (Int.toNat a) (List.length (bA (aO (.int .i64) (.map (.int .i64) .bool) a (bA d.2.1))):Int)) a)=(0:Int)))=true then(Option.bind (uI a e) fun y5=>api (f,d,g,b,aQ (a+1),h,i,j,k,List.set c (Int.toNat a) (List.length (bA (aO (.int .i64) (.map (.int .i64) .bool) a (bA d.2.1))):Int),y5)) else(api (f,d,g,b,aQ (a+1),h,i,j,k,List.set c (Int.toNat a) (List.length (bA (aO (.int .i64) (.map (.int .i64) .bool) a (bA d.2.1))):Int),e))) else none) else none) else none) else none) else(some (.aS (f,g,h,i,j,k,c,e)))
def gF(_l_:Nat)(_Y_:ZO):Nat→Nat×vY×Zd×Int×Int×UD→Option (dN (Nat×vY×UD) (dN R7 R7)):=aL fun rec15 ⟨f,g,c,b,a,h,i,j,d,k,e⟩=>if(decide (a<b))=true then(if 0≤a then(if a<(List.length c:Int) then(if 0≤(nth (.int .i64) c a) then(if(nth (.int .i64) c a)<(List.length d:Int) then(if 0≤(nth (.int .i64) c a) then(if(nth (.int .i64) c a)<(List.length d:Int) then(if 0≤(nth (.int .i64) c a) then(if(nth (.int .i64) c a)<(List.length (List.set d (Int.toNat (nth (.int .i64) c a)) (aQ ((nth (.int .i64) d (nth (.int .i64) c a)) -(1:Int)))):Int) then(if(decide ((nth (.int .i64) (List.set d (Int.toNat (nth (.int .i64) c a)) (aQ ((nth (.int .i64) d (nth (.int .i64) c a)) -(1:Int)))) (nth (.int .i64) c a))=(0:Int)))=true then(Option.bind (uI (nth (.int .i64) c a) e) fun y16=>rec15 (f,g,c,b,aQ (a+1),h,i,j,List.set d (Int.toNat (nth (.int .i64) c a)) (aQ ((nth (.int .i64) d (nth (.int .i64) c a)) -(1:Int))),k,y16)) else(rec15 (f,g,c,b,aQ (a+1),h,i,j,List.set d (Int.toNat (nth (.int .i64) c a)) (aQ ((nth (.int .i64) d (nth (.int .i64) c a)) -(1:Int))),k,e))) else none) else none) else none) else none) else none) else none) else none) else none) else(some (.aS (f,g,h,i,j,d,k,e)))
def gP(l_:Nat)(Y_:ZO):Nat→Nat×vY×UD→Option (dN R7 R7):=aL fun rec8 ⟨z,ae,aa,ab,ac,af,y,ad⟩=>Option.bind (A5 y) fun y9=>if(decide ((0:Int)<y9))=true then(aG (U:=Nat×vY×UD) (Option.bind (pY y) fun⟨a,b⟩=>aG (U:=Nat×vY×Int×UD) (if z=l_ then(Option.bind (Y_ (a,aa,ab,ac,ad,())) fun⟨c,d,e,f,g⟩=>if(!c)=true then(cN (cN (cN (some (d,e,f,g))))) else(some (.aS (z,ae,a,d,e,f,af,b,g)))) else none) fun⟨j,i,h,k,l,m,n,p,o⟩=>if 0≤h then(if h<(List.length i:Int) then(gF l_ Y_ (Int.toNat (List.length (nth (.slice 8 (.int .i64)) i h):Int)+1) (j,i,nth (.slice 8 (.int .i64)) i h,(List.length (nth (.slice 8 (.int .i64)) i h):Int),0,k,l,m,n,o,p)) else none) else none) fun⟨q,r,s,t,u,v,x,w⟩=>rec8 (q,r,s,t,u,v,w,x)) else(some (.aS (aa,ab,ac,ad)))
def lf(l_:Nat)(Y_:ZO)(a0:Nat)(a1:gV)(a2:YC)(a3:Nat)(a4:Nat)(a5:Zd):Option R7:=
 Option.bind (EB a1) fun y1=>if 0≤a1.1 then(if a1.1≤a1.1 then(if a1.1*(8:Int)≤(aF:Int) then(aG (U:=Nat×vY×UD) (iv l_ Y_ (Int.toNat a1.1+1) (a0,a1,y1,a1.1,0,a2,a3,a4,a5,List.replicate (Int.toNat a1.1) (0:Int),([]:Zd))) fun⟨a,b,c,d,e,h,f,g⟩=>aG (U:=R7) (gP l_ Y_ dA (a,b,c,d,e,f,g,h)) fun⟨i,j,k,l⟩=>some (i,j,k,l)) else none) else none) else none
def ahd:SS:=⟨89,129,[(0,.Ey),(3,.val (.slice 24 (.slice 8 (.int .i64)))),(4,.own 31),tP 5 33],[(0,.lp),(1,.tv (.slice 8 (.int .i64)) (.own 2)),(2,.row 3 8 (.int .i64)),(31,.row 3 8 (.int .i64)),(33,.var mF (.cons (.own 106) .nil)),(106,.row 3 8 (.int .i64))],[]⟩
def ahe:SS:=⟨89,129,[(0,.Ey),(3,.val (.slice 24 (.slice 8 (.int .i64)))),(4,.own 31),tP 5 33,tI 7],[(0,.lp),(1,.tv (.slice 8 (.int .i64)) (.own 107)),(31,.row 3 8 (.int .i64)),(33,.var mF (.cons (.own 67) .nil)),(67,.row 3 8 (.int .i64)),(107,.row 3 8 (.int .i64))],[]⟩
def ahf:SS:=⟨89,129,[],[(0,.lp),(1,.tv (.slice 8 (.int .i64)) (.own 112)),(112,.row 3 8 (.int .i64))],[]⟩
def ahg:SS:=⟨89,129,[(0,.Ey),(3,.val (.slice 24 (.slice 8 (.int .i64)))),(4,.own 31),tP 5 33],[(0,.lp),(1,.tv (.slice 8 (.int .i64)) (.own 107)),(31,.row 3 8 (.int .i64)),(33,.var mF (.cons (.own 109) .nil)),(107,.row 3 8 (.int .i64)),(109,.row 3 8 (.int .i64))],[]⟩
def ahh:SS:=⟨89,129,[(0,.Ey),(1,.dk rj),(3,.val (.slice 24 (.slice 8 (.int .i64)))),(4,.own 31),tP 5 33,tI 19,tI 20],[(0,.lp),(1,.tv (.slice 8 (.int .i64)) (.own 2)),(2,.row 3 8 (.int .i64)),(31,.row 3 8 (.int .i64)),(33,.var mF (.cons (.own 105) .nil)),(105,.row 3 8 (.int .i64))],[]⟩
def ahi:SS:=⟨89,129,[(0,.Ey),(3,.val (.slice 24 (.slice 8 (.int .i64)))),(4,.own 31),tP 5 33],[(0,.lp),(1,.tv (.slice 8 (.int .i64)) (.own 111)),(31,.row 3 8 (.int .i64)),(33,.var mF (.cons (.own 110) .nil)),(110,.row 3 8 (.int .i64)),(111,.row 3 8 (.int .i64))],[]⟩
def ahj:SS:=⟨89,129,[(0,.Ey),(3,.val (.slice 24 (.slice 8 (.int .i64)))),(4,.own 31),tP 5 33,(66,.val (.slice 8 (.int .i64))),tI 67,tI 68],[(0,.lp),(1,.tv (.slice 8 (.int .i64)) (.own 107)),(31,.row 3 8 (.int .i64)),(33,.var mF (.cons (.own 108) .nil)),(107,.row 3 8 (.int .i64)),(108,.row 3 8 (.int .i64))],[]⟩
def ahk:SS:=⟨89,129,[],[(0,.lp),(1,.tv (.slice 8 (.int .i64)) (.own 113)),(113,.row 3 8 (.int .i64))],[]⟩
def Dl:IC:=⟨[vI],[(0,.lp),(1,.tv (.slice 8 (.int .i64)) (.own 2)),(2,.row 3 8 (.int .i64))],53,0,[(1,.tv (.slice 8 (.int .i64)) (.own 27)),(27,.row 3 8 (.int .i64))],fun l f=>aI G [] 154 [.Ey,.dk rj] [(0,.lp),(1,.tv (.slice 8 (.int .i64)) (.own 2)),(2,.row 3 8 (.int .i64))] 129 ahk [0,1,113] (.bZ (u6 (lf l f)))⟩
theorem R0:Dl.holds Tryz.prog gl:=fun B hB l f hY=>
 bH.of tied (H:=⟨[hA 0 1,hE 7 [cB 2 [(0,33),(1,105)] [(22,56)]],hA 9 3,hE 10 [cB 4 [(0,33),(1,110)] [(30,67)]],hE 11 [cB 0 [(0,0),(1,1),(2,111)] [(27,107)]],hE 17 [cB 2 [(0,33),(1,108)] [(22,103)]]],[(9,ahd),(12,ahe)],[(2,ahf),(3,ahg)],[(3,⟨ahh,fun u3=>Int.toNat u3.2.2.2.1+1⟩),(9,⟨ahi,fun _=>dA⟩),(13,⟨ahj,fun Wx=>Int.toNat Wx.2.2.2.1+1⟩)],[],[]⟩) (hold (l:=[IC.Y Dl l f,YG,Jw,YI,JZ]) ⟨hY,afz.up rfl (fun _ _=>trivial),QF.up rfl (fun _ _=>trivial),afH.up rfl (fun _ _=>trivial),RZ.up rfl (fun _ _=>trivial),trivial⟩) aJ rfl Tryz.call154 Tryz.func154 rfl rfl rfl rfl (fun _=>by kernel_rfl) (fun _=>by kernel_rfl)
def kA(y_:YC)(b3_0:Int)(yt:YC)(yj:Nat)(g1:Nat)(c3_0:Zd):Option (Bool×R7):=
 PE yt y_ (if yj=0 then(if g1=y_.gs 1 then(Option.bind (α:=Nat×Nat×Zd) (if(List.length c3_0+List.length [b3_0])*8≤aF then(some (0,y_.gs 1,c3_0++[b3_0])) else none) fun r_=>if r_.2.1=y_.gs 1 then(some (Nat.beq r_.1 0,y_,r_.1,r_.2.1,r_.2.2)) else none) else none) else none)
def yn(a0:gV):Option Zd:=
 aG (U:=Zd) (Bg fun y2=>Option.bind (lf y2.l (fun d=>kA y2 d.1 d.2.1 d.2.2.1 d.2.2.2.1 d.2.2.2.2.1) y2.l a0 y2 0 (y2.gs 1) ([]:Zd)) fun⟨a,b,_,c⟩=>PE a y2 (if b=0 then(some (.aS c)) else none)) fun v1=>some v1
def ahl:SS:=⟨13,53,[tP 2 18],[(18,.var (.slice 8 (.int .i64)) (.own 32)),(30,.AZ),(32,.row 3 8 (.int .i64))],[.mp 30]⟩
def ahm:SS:=⟨13,53,[tP 2 18,(4,.aM),(6,.func 154 .nil (.cons (.dk rj) .nil))],[(18,.var (.slice 8 (.int .i64)) (.own 29)),(29,.row 3 8 (.int .i64))],[]⟩
def ahn:SS:=⟨13,53,[],[(1,.var (.slice 8 (.int .i64)) (.own 27)),(27,.row 3 8 (.int .i64))],[]⟩
def aho:SS:=⟨13,53,[(4,.val (.slice 8 (.int .i64)))],[],[]⟩
def R3:bH:=aI G [.tmp 4] 153 [.aM,.func 154 .nil (.cons (.dk rj) .nil)] [] 53 aho [] (.bZ (u1 yn))
theorem R4:hS R3:=
 cO ⟨[],[(4,ahl)],[],[],[],[(3,⟨0,30,31,[(1,.slice 8 (.int .i64))],[(18,1)],[],[(0,31),(1,18),(2,29)],[(113,32)],ahm,ahn⟩)]⟩ hz (FY (L:=[Dl]) ⟨R0,trivial⟩) Tryz.call153 Tryz.func153
def pZ(a0:gV):Option Zd:=
 Option.bind (yn a0) fun y1=>some y1
def aal:SS:=⟨5,45,[(2,.val (.slice 8 (.int .i64)))],[],[]⟩
def Ws:bH:=aI G [.tmp 2] 95 [.func 154 .nil (.cons (.dk rj) .nil)] [] 45 aal [] (.bZ (u1 pZ))
theorem Wt:hS Ws:=
 cO (hR [hA 1 0]) (hq R4 hz) aJ Tryz.call95 Tryz.func95
end Go.Proofs.YtkhfnbfpgcjllaaGreatDoor
