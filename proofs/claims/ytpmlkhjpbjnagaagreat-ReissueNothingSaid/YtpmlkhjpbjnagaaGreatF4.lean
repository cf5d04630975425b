/- part -/
import Derived.Test.YtpmlkhjpbjnagaaGreatF3
noncomputable section
namespace Go.Proofs.YtpmlkhjpbjnagaaGreat
open Go.Ax
def k9:Nat→Int×Int×Int×Zg→Option (cH (Int×Int×Zg) (Bool×Zg)):=aK fun am3 ⟨q,o,p,r⟩=>aH (U:=Int×Int×Int×Int×Zg) (Option.bind (α:=Bool) (if(decide (o≤(aZ ((aZ ((2:Int)*p))+(1:Int)))))=true then(some true) else(some (decide ((aZ ((aZ ((2:Int)*p))+(1:Int)))<(0:Int))))) fun v5=>if v5=true then(cw (some (.bA (q,p,r)))) else(some (.bA (q,o,p,aZ ((aZ ((2:Int)*p))+(1:Int)),r)))) fun⟨d,b,e,a,c⟩=>aH (U:=Int×Int×Int×Int×Zg) (if(decide ((aZ (a+1))<b))=true then(Option.bind (lF (aZ (a+1)) a c) fun⟨f,g⟩=>if f=true then(some (.bA (d,b,e,aZ (a+1),g))) else(some (.bA (d,b,e,a,g)))) else(some (.bA (d,b,e,a,c)))) fun⟨k,l,i,h,j⟩=>Option.bind (lF h i j) fun⟨m,n⟩=>if(!m)=true then(some (.bA (k,i,n))) else(Option.bind (j5 i h n) fun y9=>am3 (k,l,h,y9))
def tK(a0:Int)(a1:Int)(a2:Zg):Option (Bool×Zg):=
 aH (U:=Int×Int×Zg) (k9 eP (a0,a1,a0,a2)) fun⟨a,b,c⟩=>some (decide (a<b),c)
def ac2:SS:=⟨48,88,[(0,.iface 333 (pP 0)),tI 1,tI 2,tI 7,tI 8],Ic,[]⟩
def ac3:SS:=⟨48,88,[(0,.iface 333 (pP 0)),tI 1,tI 2,tI 7,tI 9],Ic,[]⟩
def ac4:SS:=⟨48,88,[tI 1,tI 7],Ic,[]⟩
def ac5:SS:=⟨48,88,[(0,.iface 333 (pP 0)),tI 1,tI 2,tI 7],Ic,[]⟩
def ac6:SS:=⟨48,88,[(6,vB)],Ic,[]⟩
def NS:aX:=aE G [.tmp 6] 252 [.iface 333 (pP 0),vI,vI] Ic 88 ac6 [0,1] (.bH (u3 tK))
theorem NT:hS NS:=
 cO ⟨[hD 3 21 [],hE 6 [cB 0 [(0,1)] []],hE 8 [cB 0 [(0,1)] []],hE 9 [cB 1 [(0,1)] []]],[(4,ac2),(8,ac3),(11,ac4)],[],[(2,⟨ac5,fun _=>eP⟩)],[],[]⟩ (hq GD (hq Am hz)) aJ Tryz.call252 Tryz.func252
def tL(a0:Zg):Option (Int×Zg):=
 if 0≤(aZ ((a0.length:Int) -(1:Int))) then(if(aZ ((a0.length:Int) -(1:Int)))<(a0.length:Int) then(if 0≤(aZ ((a0.length:Int) -(1:Int))) then(if(aZ ((a0.length:Int) -(1:Int)))≤(a0.length:Int) then(some (nth qr a0 (aZ ((a0.length:Int) -(1:Int))),List.take ((Int.toNat (aZ ((a0.length:Int) -(1:Int)))) -0) a0)) else none) else none) else none) else none
def ac7:SS:=⟨32,72,[(2,.iface 3 vI)],[(0,.var rU (.cons (.own 48) .nil)),(48,.row 3 8 qr)],[]⟩
def NU:aX:=aE G [.tmp 2] 281 [pP 0] Ic 72 ac7 [0,48] (.bH (u1 tL))
theorem NV:hS NU:=
 cO (hR [(2,⟨[],[],[],none,[],[],[.oz 0 [.cV 0] 48]⟩)]) hz aJ Tryz.call281 Tryz.func281
def nB(a0:Zg):Option (Int×Zg):=
 Option.bind (qJ a0) fun⟨a,b⟩=>Option.bind (j5 (0:Int) (aZ (a -(1:Int))) b) fun y2=>Option.bind (tK (0:Int) (aZ (a -(1:Int))) y2) fun⟨_,c⟩=>Option.bind (tL c) fun⟨d,e⟩=>some (d,e)
def ac8:SS:=⟨15,55,[(2,.iface 3 vI)],[(0,.var rU (.cons (.own 30) .nil)),(30,.row 3 8 qr)],[]⟩
def FN:aX:=aE G [.tmp 2] 205 [.iface 333 (pP 0)] Ic 55 ac8 [0,30] (.bH (u1 nB))
theorem NW:hS FN:=
 cO (hR [hE 1 [cB 0 [(0,1)] []],hE 2 [cB 1 [(0,1)] []],hE 3 [cB 2 [(0,0),(1,1)] []],hE 4 [cB 3 [(0,0),(1,1)] [(48,30)]]]) (hq GC (hq Am (hq NT (hq NV hz)))) aJ Tryz.call205 Tryz.func205
def fb(_l_:Nat)(_Y_:ZO):Nat→Nat×ef×qS×Int×Int×Sx→Option (cH (Nat×qS×Sx) Ra):=aK fun rec4 ⟨f,d,g,b,a,h,i,j,k,c,e⟩=>if(decide (a<b))=true then(if 0≤a then(if a<(c.length:Int) then(if 0≤a then(if a<(List.length (List.set c (Int.toNat a) (List.length (bE (aQ qr (.map qr .bool) a (bE d.2.1))):Int)):Int) then(if(decide ((nth qr (List.set c (Int.toNat a) (List.length (bE (aQ qr (.map qr .bool) a (bE d.2.1))):Int)) a)=(0:Int)))=true then(Option.bind (qK a e) fun y5=>rec4 (f,d,g,b,aZ (a+1),h,i,j,k,List.set c (Int.toNat a) (List.length (bE (aQ qr (.map qr .bool) a (bE d.2.1))):Int),y5)) else(rec4 (f,d,g,b,aZ (a+1),h,i,j,k,List.set c (Int.toNat a) (List.length (bE (aQ qr (.map qr .bool) a (bE d.2.1))):Int),e))) else none) else none) else none) else none) else(some (.bA (f,g,h,i,j,k,c,e)))
def eE(_l_:Nat)(_Y_:ZO):Nat→Nat×qS×Zg×Int×Int×Sx→Option (cH (Nat×qS×Sx) (cH Ra Ra)):=aK fun rec15 ⟨f,g,c,b,a,h,i,j,d,k,e⟩=>if(decide (a<b))=true then(if 0≤a then(if a<(c.length:Int) then(if 0≤(nth qr c a) then(if(nth qr c a)<(d.length:Int) then(if 0≤(nth qr c a) then(if(nth qr c a)<(d.length:Int) then(if 0≤(nth qr c a) then(if(nth qr c a)<(List.length (List.set d (Int.toNat (nth qr c a)) (aZ ((nth qr d (nth qr c a)) -(1:Int)))):Int) then(if(decide ((nth qr (List.set d (Int.toNat (nth qr c a)) (aZ ((nth qr d (nth qr c a)) -(1:Int)))) (nth qr c a))=(0:Int)))=true then(Option.bind (qK (nth qr c a) e) fun y16=>rec15 (f,g,c,b,aZ (a+1),h,i,j,List.set d (Int.toNat (nth qr c a)) (aZ ((nth qr d (nth qr c a)) -(1:Int))),k,y16)) else(rec15 (f,g,c,b,aZ (a+1),h,i,j,List.set d (Int.toNat (nth qr c a)) (aZ ((nth qr d (nth qr c a)) -(1:Int))),k,e))) else none) else none) else none) else none) else none) else none) else none) else none) else(some (.bA (f,g,h,i,j,d,k,e)))
def fc(l_:Nat)(Y_:ZO):Nat→Nat×qS×Sx→Option (cH Ra Ra):=aK fun rec8 ⟨z,ae,aa,ab,ac,af,y,ad⟩=>Option.bind (CE y) fun y9=>if(decide ((0:Int)<y9))=true then(aH (U:=Nat×qS×Sx) (Option.bind (nB y) fun⟨a,b⟩=>aH (U:=Nat×qS×Int×Sx) (if z=l_ then(Option.bind (Y_ (a,aa,ab,ac,ad,())) fun⟨c,d,e,f,g⟩=>if(!c)=true then(cw (cw (cw (some (d,e,f,g))))) else(some (.bA (z,ae,a,d,e,f,af,b,g)))) else none) fun⟨j,i,h,k,l,m,n,p,o⟩=>if 0≤h then(if h<(i.length:Int) then(eE l_ Y_ (Int.toNat (List.length (nth (.slice 8 qr) i h):Int)+1) (j,i,nth (.slice 8 qr) i h,(List.length (nth (.slice 8 qr) i h):Int),0,k,l,m,n,o,p)) else none) else none) fun⟨q,r,s,t,u,v,x,w⟩=>rec8 (q,r,s,t,u,v,w,x)) else(some (.bA (aa,ab,ac,ad)))
def jq(l_:Nat)(Y_:ZO)(a0:Nat)(a1:ef)(a2:YC)(a3:Nat)(a4:Nat)(a5:Zg):Option Ra:=
 Option.bind (Ey a1) fun y1=>if 0≤a1.1 then(if a1.1≤a1.1 then(if a1.1*(8:Int)≤(aG:Int) then(aH (U:=Nat×qS×Sx) (fb l_ Y_ (Int.toNat a1.1+1) (a0,a1,y1,a1.1,0,a2,a3,a4,a5,List.replicate (Int.toNat a1.1) (0:Int),([]:Zg))) fun⟨a,b,c,d,e,h,f,g⟩=>aH (U:=Ra) (fc l_ Y_ eP (a,b,c,d,e,f,g,h)) fun⟨i,j,k,l⟩=>some (i,j,k,l)) else none) else none) else none
def Ts:List (Nat×Sh):=[(0,.zg),(3,.val (.slice 24 (.slice 8 qr))),(4,.own 31),tP 5 33]
def ac9:SS:=⟨89,129,Ts,[(0,.lp),(1,.tv (.slice 8 qr) (.own 2)),(2,.row 3 8 qr),(31,.row 3 8 qr),(33,.var rU (.cons (.own 106) .nil)),(106,.row 3 8 qr)],[]⟩
def ada:SS:=⟨89,129,[(0,.zg),(3,.val (.slice 24 (.slice 8 qr))),(4,.own 31),tP 5 33,tI 7],[(0,.lp),(1,.tv (.slice 8 qr) (.own 107)),(31,.row 3 8 qr),(33,.var rU (.cons (.own 67) .nil)),(67,.row 3 8 qr),(107,.row 3 8 qr)],[]⟩
def adb:SS:=⟨89,129,[],[(0,.lp),(1,.tv (.slice 8 qr) (.own 112)),(112,.row 3 8 qr)],[]⟩
def ade:SS:=⟨89,129,Ts,[(0,.lp),(1,.tv (.slice 8 qr) (.own 107)),(31,.row 3 8 qr),(33,.var rU (.cons (.own 109) .nil)),(107,.row 3 8 qr),(109,.row 3 8 qr)],[]⟩
def adf:SS:=⟨89,129,[(0,.zg),(1,.cb oh),(3,.val (.slice 24 (.slice 8 qr))),(4,.own 31),tP 5 33,tI 19,tI 20],[(0,.lp),(1,.tv (.slice 8 qr) (.own 2)),(2,.row 3 8 qr),(31,.row 3 8 qr),(33,.var rU (.cons (.own 105) .nil)),(105,.row 3 8 qr)],[]⟩
def adg:SS:=⟨89,129,Ts,[(0,.lp),(1,.tv (.slice 8 qr) (.own 111)),(31,.row 3 8 qr),(33,.var rU (.cons (.own 110) .nil)),(110,.row 3 8 qr),(111,.row 3 8 qr)],[]⟩
def adh:SS:=⟨89,129,[(0,.zg),(3,.val (.slice 24 (.slice 8 qr))),(4,.own 31),tP 5 33,(66,.val (.slice 8 qr)),tI 67,tI 68],[(0,.lp),(1,.tv (.slice 8 qr) (.own 107)),(31,.row 3 8 qr),(33,.var rU (.cons (.own 108) .nil)),(107,.row 3 8 qr),(108,.row 3 8 qr)],[]⟩
def adi:SS:=⟨89,129,[],[(0,.lp),(1,.tv (.slice 8 qr) (.own 113)),(113,.row 3 8 qr)],[]⟩
def Xc:List (Nat×dj):=[(0,.lp),(1,.tv (.slice 8 qr) (.own 2)),(2,.row 3 8 qr)]
def zd:IC:=⟨[vI],Xc,53,0,[(1,.tv (.slice 8 qr) (.own 27)),(27,.row 3 8 qr)],fun l f=>aE G [] 201 [.zg,.cb oh] Xc 129 adi [0,1,113] (.bH (u6 (jq l f)))⟩
theorem NX:zd.holds Tryz.prog gl:=fun B hB l f hY=>
 aX.of tied (H:=⟨[hA 0 1,hE 7 [cB 2 [(0,33),(1,105)] [(22,56)]],hA 9 3,hE 10 [cB 4 [(0,33),(1,110)] [(30,67)]],hE 11 [cB 0 [(0,0),(1,1),(2,111)] [(27,107)]],hE 17 [cB 2 [(0,33),(1,108)] [(22,103)]]],[(9,ac9),(12,ada)],[(2,adb),(3,ade)],[(3,⟨adf,fun u3=>Int.toNat u3.2.2.2.1+1⟩),(9,⟨adg,fun _=>eP⟩),(13,⟨adh,fun MO=>Int.toNat MO.2.2.2.1+1⟩)],[],[]⟩) (hold (l:=[IC.Y zd l f,Ye,GF,Yg,FN]) ⟨hY,agT.up rfl (fun _ _=>trivial),P6.up rfl (fun _ _=>trivial),ag1.up rfl (fun _ _=>trivial),NW.up rfl (fun _ _=>trivial),trivial⟩) aJ rfl Tryz.call201 Tryz.func201 rfl rfl rfl rfl (fun _=>by kernel_rfl) (fun _=>by kernel_rfl)
def gG(y_:YC)(b3_0:Int)(yt:YC)(yj:Nat)(g1:Nat)(c3_0:Zg):Option (Bool×Ra):=
 IW yt y_ (if yj=0 then(if g1=y_.gs 1 then(Option.bind (α:=Nat×Nat×Zg) (if(List.length c3_0+List.length [b3_0])*8≤aG then(some (0,y_.gs 1,c3_0++[b3_0])) else none) fun r_=>if r_.2.1=y_.gs 1 then(some (Nat.beq r_.1 0,y_,r_.1,r_.2.1,r_.2.2)) else none) else none) else none)
def tM(a0:ef):Option Zg:=
 aH (U:=Zg) (vr fun y2=>Option.bind (jq y2.l (fun d=>gG y2 d.1 d.2.1 d.2.2.1 d.2.2.2.1 d.2.2.2.2.1) y2.l a0 y2 0 (y2.gs 1) ([]:Zg)) fun⟨a,b,_,c⟩=>IW a y2 (if b=0 then(some (.bA c)) else none)) fun v1=>some v1
def adj:SS:=⟨13,53,[tP 2 18],[(18,.var (.slice 8 qr) (.own 32)),(30,.sY),(32,.row 3 8 qr)],[.mp 30]⟩
def adk:SS:=⟨13,53,[tP 2 18,(4,.bF),(6,.func 201 .nil (.cons (.cb oh) .nil))],[(18,.var (.slice 8 qr) (.own 29)),(29,.row 3 8 qr)],[]⟩
def adl:SS:=⟨13,53,[],[(1,.var (.slice 8 qr) (.own 27)),(27,.row 3 8 qr)],[]⟩
def adm:SS:=⟨13,53,[(4,.val (.slice 8 qr))],[],[]⟩
def NY:aX:=aE G [.tmp 4] 200 [.bF,.func 201 .nil (.cons (.cb oh) .nil)] [] 53 adm [] (.bH (u1 tM))
theorem NZ:hS NY:=
 cO ⟨[],[(4,adj)],[],[],[],[(3,⟨0,30,31,[(1,.slice 8 qr)],[(18,1)],[],[(0,31),(1,18),(2,29)],[(113,32)],adk,adl⟩)]⟩ hz (xL (L:=[zd]) ⟨NX,trivial⟩) Tryz.call200 Tryz.func200
def jr(a0:ef):Option Zg:=
 Option.bind (tM a0) fun y1=>some y1
def Xd:SS:=⟨5,45,[(2,.val (.slice 8 qr))],[],[]⟩
def N0:aX:=aE G [.tmp 2] 143 [.func 201 .nil (.cons (.cb oh) .nil)] [] 45 Xd [] (.bH (u1 jr))
theorem N1:hS N0:=
 cO (hR [hA 1 0]) (hq NZ hz) aJ Tryz.call143 Tryz.func143
end Go.Proofs.YtpmlkhjpbjnagaaGreat
