/- part -/
import Derived.Test.YtkhfnbfpgcjllaaGreatDoorF5
noncomputable section
namespace Go.Proofs.YtkhfnbfpgcjllaaGreatDoor
open Go.Ax
def pJ:Nat→Int×Int×Int×Zd→Option (dR (Int×Int×Zd) (Bool×Zd)):=aL fun aoK ⟨q,o,p,r⟩=>aI (U:=Int×Int×Int×Int×Zd) (Option.bind (α:=Bool) (if(decide (o≤(aV ((aV ((2:Int)*p))+(1:Int)))))=true then(some true) else(some (decide ((aV ((aV ((2:Int)*p))+(1:Int)))<(0:Int))))) fun v5=>if v5=true then(cU (some (.aX (q,p,r)))) else(some (.aX (q,o,p,aV ((aV ((2:Int)*p))+(1:Int)),r)))) fun⟨d,b,e,a,c⟩=>aI (U:=Int×Int×Int×Int×Zd) (if(decide ((aV (a+1))<b))=true then(Option.bind (pb (aV (a+1)) a c) fun⟨f,g⟩=>if f=true then(some (.aX (d,b,e,aV (a+1),g))) else(some (.aX (d,b,e,a,g)))) else(some (.aX (d,b,e,a,c)))) fun⟨k,l,i,h,j⟩=>Option.bind (pb h i j) fun⟨m,n⟩=>if(!m)=true then(some (.aX (k,i,n))) else(Option.bind (nN i h n) fun y9=>aoK (k,l,h,y9))
def yb(a0:Int)(a1:Int)(a2:Zd):Option (Bool×Zd):=
 aI (U:=Int×Int×Zd) (pJ dG (a0,a1,a0,a2)) fun⟨a,b,c⟩=>some (decide (a<b),c)
def ag1:SS:=⟨48,88,[(0,.iface 281 (pP 0)),tI 1,tI 2,tI 7,tI 8],[(0,.var mr (.cons (.own 1) .nil)),(1,.row 3 8 (.int .i64))],[]⟩
def ag2:SS:=⟨48,88,[(0,.iface 281 (pP 0)),tI 1,tI 2,tI 7,tI 9],[(0,.var mr (.cons (.own 1) .nil)),(1,.row 3 8 (.int .i64))],[]⟩
def ag3:SS:=⟨48,88,[tI 1,tI 7],[(0,.var mr (.cons (.own 1) .nil)),(1,.row 3 8 (.int .i64))],[]⟩
def ag4:SS:=⟨48,88,[(0,.iface 281 (pP 0)),tI 1,tI 2,tI 7],[(0,.var mr (.cons (.own 1) .nil)),(1,.row 3 8 (.int .i64))],[]⟩
def ag5:SS:=⟨48,88,[(6,vB)],[(0,.var mr (.cons (.own 1) .nil)),(1,.row 3 8 (.int .i64))],[]⟩
def RL:bG:=aG G [.tmp 6] 230 [.iface 281 (pP 0),vI,vI] [(0,.var mr (.cons (.own 1) .nil)),(1,.row 3 8 (.int .i64))] 88 ag5 [0,1] (.bY (u3 yb))
theorem RN:hS RL:=
 cO ⟨[hD 3 21 [],hE 6 [cB 0 [(0,1)] []],hE 8 [cB 0 [(0,1)] []],hE 9 [cB 1 [(0,1)] []]],[(4,ag1),(8,ag2),(11,ag3)],[],[(2,⟨ag4,fun _=>dG⟩)],[],[]⟩ (hq Jr (hq Cj hz)) aJ Tryz.call230 Tryz.func230
def yc(a0:Zd):Option (Int×Zd):=
 if 0≤(aV ((List.length a0:Int) -(1:Int))) then(if(aV ((List.length a0:Int) -(1:Int)))<(List.length a0:Int) then(if 0≤(aV ((List.length a0:Int) -(1:Int))) then(if(aV ((List.length a0:Int) -(1:Int)))≤(List.length a0:Int) then(some (nth (.int .i64) a0 (aV ((List.length a0:Int) -(1:Int))),List.take ((Int.toNat (aV ((List.length a0:Int) -(1:Int)))) -0) a0)) else none) else none) else none) else none
def ag6:SS:=⟨32,72,[(2,.iface 3 vI)],[(0,.var mr (.cons (.own 48) .nil)),(48,.row 3 8 (.int .i64))],[]⟩
def RQ:bG:=aG G [.tmp 2] 266 [pP 0] [(0,.var mr (.cons (.own 1) .nil)),(1,.row 3 8 (.int .i64))] 72 ag6 [0,48] (.bY (u1 yc))
theorem RR:hS RQ:=
 cO (hR [(2,⟨[],[],[],none,[],[],[.tB 0 [.dX 0] 48]⟩)]) hz aJ Tryz.call266 Tryz.func266
def pK(a0:Zd):Option (Int×Zd):=
 Option.bind (uv a0) fun⟨a,b⟩=>Option.bind (nN (0:Int) (aV (a -(1:Int))) b) fun y2=>Option.bind (yb (0:Int) (aV (a -(1:Int))) y2) fun⟨_,c⟩=>Option.bind (yc c) fun⟨d,e⟩=>some (d,e)
def ag7:SS:=⟨15,55,[(2,.iface 3 vI)],[(0,.var mr (.cons (.own 30) .nil)),(30,.row 3 8 (.int .i64))],[]⟩
def JV:bG:=aG G [.tmp 2] 158 [.iface 281 (pP 0)] [(0,.var mr (.cons (.own 1) .nil)),(1,.row 3 8 (.int .i64))] 55 ag7 [0,30] (.bY (u1 pK))
theorem RS:hS JV:=
 cO (hR [hE 1 [cB 0 [(0,1)] []],hE 2 [cB 1 [(0,1)] []],hE 3 [cB 2 [(0,0),(1,1)] []],hE 4 [cB 3 [(0,0),(1,1)] [(48,30)]]]) (hq Jq (hq Cj (hq RN (hq RR hz)))) aJ Tryz.call158 Tryz.func158
def il(_l_:Nat)(_Y_:ZN):Nat→Nat×gN×ZX×Int×Int×Ux→Option (dR (Nat×ZX×Ux) RZ):=aL fun apg ⟨f,d,g,b,a,h,i,j,k,c,e⟩=>if(decide (a<b))=true then(if 0≤a then(if a<(List.length c:Int) then(if 0≤a then(if a<(List.length (List.set c (Int.toNat a) (List.length (bC (aO (.int .i64) (.map (.int .i64) .bool) a (bC d.2.1))):Int)):Int) then(if(decide ((nth (.int .i64) (List.set c (Int.toNat a) (List.length (bC (aO (.int .i64) (.map (.int .i64) .bool) a (bC d.2.1))):Int)) a)=(0:Int)))=true then(Option.bind (uw a e) fun y5=>apg (f,d,g,b,aV (a+1),h,i,j,k,List.set c (Int.toNat a) (List.length (bC (aO (.int .i64) (.map (.int .i64) .bool) a (bC d.2.1))):Int),y5)) else(apg (f,d,g,b,aV (a+1),h,i,j,k,List.set c (Int.toNat a) (List.length (bC (aO (.int .i64) (.map (.int .i64) .bool) a (bC d.2.1))):Int),e))) else none) else none) else none) else none) else(some (.aX (f,g,h,i,j,k,c,e)))
def gw(_l_:Nat)(_Y_:ZN):Nat→Nat×ZX×Zd×Int×Int×Ux→Option (dR (Nat×ZX×Ux) (dR RZ RZ)):=aL fun rec15 ⟨f,g,c,b,a,h,i,j,d,k,e⟩=>if(decide (a<b))=true then(if 0≤a then(if a<(List.length c:Int) then(if 0≤(nth (.int .i64) c a) then(if(nth (.int .i64) c a)<(List.length d:Int) then(if 0≤(nth (.int .i64) c a) then(if(nth (.int .i64) c a)<(List.length d:Int) then(if 0≤(nth (.int .i64) c a) then(if(nth (.int .i64) c a)<(List.length (List.set d (Int.toNat (nth (.int .i64) c a)) (aV ((nth (.int .i64) d (nth (.int .i64) c a)) -(1:Int)))):Int) then(if(decide ((nth (.int .i64) (List.set d (Int.toNat (nth (.int .i64) c a)) (aV ((nth (.int .i64) d (nth (.int .i64) c a)) -(1:Int)))) (nth (.int .i64) c a))=(0:Int)))=true then(Option.bind (uw (nth (.int .i64) c a) e) fun y16=>rec15 (f,g,c,b,aV (a+1),h,i,j,List.set d (Int.toNat (nth (.int .i64) c a)) (aV ((nth (.int .i64) d (nth (.int .i64) c a)) -(1:Int))),k,y16)) else(rec15 (f,g,c,b,aV (a+1),h,i,j,List.set d (Int.toNat (nth (.int .i64) c a)) (aV ((nth (.int .i64) d (nth (.int .i64) c a)) -(1:Int))),k,e))) else none) else none) else none) else none) else none) else none) else none) else none) else(some (.aX (f,g,h,i,j,d,k,e)))
def gI(l_:Nat)(Y_:ZN):Nat→Nat×ZX×Ux→Option (dR RZ RZ):=aL fun rec8 ⟨z,ae,aa,ab,ac,af,y,ad⟩=>Option.bind (AX y) fun y9=>if(decide ((0:Int)<y9))=true then(aI (U:=Nat×ZX×Ux) (Option.bind (pK y) fun⟨a,b⟩=>aI (U:=Nat×ZX×Int×Ux) (if z=l_ then(Option.bind (Y_ (a,aa,ab,ac,ad,())) fun⟨c,d,e,f,g⟩=>if(!c)=true then(cU (cU (cU (some (d,e,f,g))))) else(some (.aX (z,ae,a,d,e,f,af,b,g)))) else none) fun⟨j,i,h,k,l,m,n,p,o⟩=>if 0≤h then(if h<(List.length i:Int) then(gw l_ Y_ (Int.toNat (List.length (nth (.slice 8 (.int .i64)) i h):Int)+1) (j,i,nth (.slice 8 (.int .i64)) i h,(List.length (nth (.slice 8 (.int .i64)) i h):Int),0,k,l,m,n,o,p)) else none) else none) fun⟨q,r,s,t,u,v,x,w⟩=>rec8 (q,r,s,t,u,v,w,x)) else(some (.aX (aa,ab,ac,ad)))
def kZ(l_:Nat)(Y_:ZN)(a0:Nat)(a1:gN)(a2:YC)(a3:Nat)(a4:Nat)(a5:Zd):Option RZ:=
 Option.bind (Ev a1) fun y1=>if 0≤a1.1 then(if a1.1≤a1.1 then(if a1.1*(8:Int)≤(aF:Int) then(aI (U:=Nat×ZX×Ux) (il l_ Y_ (Int.toNat a1.1+1) (a0,a1,y1,a1.1,0,a2,a3,a4,a5,List.replicate (Int.toNat a1.1) (0:Int),([]:Zd))) fun⟨a,b,c,d,e,h,f,g⟩=>aI (U:=RZ) (gI l_ Y_ dG (a,b,c,d,e,f,g,h)) fun⟨i,j,k,l⟩=>some (i,j,k,l)) else none) else none) else none
def ag8:SS:=⟨89,129,[(0,.Es),(3,.val (.slice 24 (.slice 8 (.int .i64)))),(4,.own 31),tP 5 33],[(0,.lp),(1,.tv (.slice 8 (.int .i64)) (.own 2)),(2,.row 3 8 (.int .i64)),(31,.row 3 8 (.int .i64)),(33,.var mr (.cons (.own 106) .nil)),(106,.row 3 8 (.int .i64))],[]⟩
def ag9:SS:=⟨89,129,[(0,.Es),(3,.val (.slice 24 (.slice 8 (.int .i64)))),(4,.own 31),tP 5 33,tI 7],[(0,.lp),(1,.tv (.slice 8 (.int .i64)) (.own 107)),(31,.row 3 8 (.int .i64)),(33,.var mr (.cons (.own 67) .nil)),(67,.row 3 8 (.int .i64)),(107,.row 3 8 (.int .i64))],[]⟩
def aha:SS:=⟨89,129,[],[(0,.lp),(1,.tv (.slice 8 (.int .i64)) (.own 112)),(112,.row 3 8 (.int .i64))],[]⟩
def ahb:SS:=⟨89,129,[(0,.Es),(3,.val (.slice 24 (.slice 8 (.int .i64)))),(4,.own 31),tP 5 33],[(0,.lp),(1,.tv (.slice 8 (.int .i64)) (.own 107)),(31,.row 3 8 (.int .i64)),(33,.var mr (.cons (.own 109) .nil)),(107,.row 3 8 (.int .i64)),(109,.row 3 8 (.int .i64))],[]⟩
def ahc:SS:=⟨89,129,[(0,.Es),(1,.dk qS),(3,.val (.slice 24 (.slice 8 (.int .i64)))),(4,.own 31),tP 5 33,tI 19,tI 20],[(0,.lp),(1,.tv (.slice 8 (.int .i64)) (.own 2)),(2,.row 3 8 (.int .i64)),(31,.row 3 8 (.int .i64)),(33,.var mr (.cons (.own 105) .nil)),(105,.row 3 8 (.int .i64))],[]⟩
def ahd:SS:=⟨89,129,[(0,.Es),(3,.val (.slice 24 (.slice 8 (.int .i64)))),(4,.own 31),tP 5 33],[(0,.lp),(1,.tv (.slice 8 (.int .i64)) (.own 111)),(31,.row 3 8 (.int .i64)),(33,.var mr (.cons (.own 110) .nil)),(110,.row 3 8 (.int .i64)),(111,.row 3 8 (.int .i64))],[]⟩
def ahe:SS:=⟨89,129,[(0,.Es),(3,.val (.slice 24 (.slice 8 (.int .i64)))),(4,.own 31),tP 5 33,(66,.val (.slice 8 (.int .i64))),tI 67,tI 68],[(0,.lp),(1,.tv (.slice 8 (.int .i64)) (.own 107)),(31,.row 3 8 (.int .i64)),(33,.var mr (.cons (.own 108) .nil)),(107,.row 3 8 (.int .i64)),(108,.row 3 8 (.int .i64))],[]⟩
def ahf:SS:=⟨89,129,[],[(0,.lp),(1,.tv (.slice 8 (.int .i64)) (.own 113)),(113,.row 3 8 (.int .i64))],[]⟩
def De:IC:=⟨[vI],[(0,.lp),(1,.tv (.slice 8 (.int .i64)) (.own 2)),(2,.row 3 8 (.int .i64))],53,0,[(1,.tv (.slice 8 (.int .i64)) (.own 27)),(27,.row 3 8 (.int .i64))],fun l f=>aG G [] 154 [.Es,.dk qS] [(0,.lp),(1,.tv (.slice 8 (.int .i64)) (.own 2)),(2,.row 3 8 (.int .i64))] 129 ahf [0,1,113] (.bY (u6 (kZ l f)))⟩
theorem RU:De.holds Tryz.prog gl:=fun B hB l f hY=>
 bG.of tied (H:=⟨[hA 0 1,hE 7 [cB 2 [(0,33),(1,105)] [(22,56)]],hA 9 3,hE 10 [cB 4 [(0,33),(1,110)] [(30,67)]],hE 11 [cB 0 [(0,0),(1,1),(2,111)] [(27,107)]],hE 17 [cB 2 [(0,33),(1,108)] [(22,103)]]],[(9,ag8),(12,ag9)],[(2,aha),(3,ahb)],[(3,⟨ahc,fun u3=>Int.toNat u3.2.2.2.1+1⟩),(9,⟨ahd,fun _=>dG⟩),(13,⟨ahe,fun Ws=>Int.toNat Ws.2.2.2.1+1⟩)],[],[]⟩) (hold (l:=[IC.Y De l f,YA,Js,YD,JV]) ⟨hY,afu.up rfl (fun _ _=>trivial),QA.up rfl (fun _ _=>trivial),afC.up rfl (fun _ _=>trivial),RS.up rfl (fun _ _=>trivial),trivial⟩) aJ rfl Tryz.call154 Tryz.func154 rfl rfl rfl rfl (fun _=>by kernel_rfl) (fun _=>by kernel_rfl)
def kq(y_:YC)(b3_0:Int)(yt:YC)(yj:Nat)(g1:Nat)(c3_0:Zd):Option (Bool×RZ):=
 PA yt y_ (if yj=0 then(if g1=y_.gs 1 then(Option.bind (α:=Nat×Nat×Zd) (if(List.length c3_0+List.length [b3_0])*8≤aF then(some (0,y_.gs 1,c3_0++[b3_0])) else none) fun r_=>if r_.2.1=y_.gs 1 then(some (Nat.beq r_.1 0,y_,r_.1,r_.2.1,r_.2.2)) else none) else none) else none)
def yd(a0:gN):Option Zd:=
 aI (U:=Zd) (A8 fun y2=>Option.bind (kZ y2.l (fun d=>kq y2 d.1 d.2.1 d.2.2.1 d.2.2.2.1 d.2.2.2.2.1) y2.l a0 y2 0 (y2.gs 1) ([]:Zd)) fun⟨a,b,_,c⟩=>PA a y2 (if b=0 then(some (.aX c)) else none)) fun v1=>some v1
def ahg:SS:=⟨13,53,[tP 2 18],[(18,.var (.slice 8 (.int .i64)) (.own 32)),(30,.AR),(32,.row 3 8 (.int .i64))],[.mp 30]⟩
def ahh:SS:=⟨13,53,[tP 2 18,(4,.aM),(6,.func 154 .nil (.cons (.dk qS) .nil))],[(18,.var (.slice 8 (.int .i64)) (.own 29)),(29,.row 3 8 (.int .i64))],[]⟩
def ahi:SS:=⟨13,53,[],[(1,.var (.slice 8 (.int .i64)) (.own 27)),(27,.row 3 8 (.int .i64))],[]⟩
def ahj:SS:=⟨13,53,[(4,.val (.slice 8 (.int .i64)))],[],[]⟩
def RW:bG:=aG G [.tmp 4] 153 [.aM,.func 154 .nil (.cons (.dk qS) .nil)] [] 53 ahj [] (.bY (u1 yd))
theorem RX:hS RW:=
 cO ⟨[],[(4,ahg)],[],[],[],[(3,⟨0,30,31,[(1,.slice 8 (.int .i64))],[(18,1)],[],[(0,31),(1,18),(2,29)],[(113,32)],ahh,ahi⟩)]⟩ hz (FQ (L:=[De]) ⟨RU,trivial⟩) Tryz.call153 Tryz.func153
def pL(a0:gN):Option Zd:=
 Option.bind (yd a0) fun y1=>some y1
def aah:SS:=⟨5,45,[(2,.val (.slice 8 (.int .i64)))],[],[]⟩
def Wm:bG:=aG G [.tmp 2] 95 [.func 154 .nil (.cons (.dk qS) .nil)] [] 45 aah [] (.bY (u1 pL))
theorem Wn:hS Wm:=
 cO (hR [hA 1 0]) (hq RX hz) aJ Tryz.call95 Tryz.func95
end Go.Proofs.YtkhfnbfpgcjllaaGreatDoor
